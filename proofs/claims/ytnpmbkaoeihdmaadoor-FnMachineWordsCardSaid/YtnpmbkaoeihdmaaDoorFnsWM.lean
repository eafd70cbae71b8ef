/- The functions on data. By program. -/
import Derived.Test.YtnpmbkaoeihdmaaDoorTypes
set_option linter.unusedVariables false
set_option linter.unusedSimpArgs false
namespace Go.Proofs.YtnpmbkaoeihdmaaDoor
open Go Go.Wk Go.Proofs
set_option maxRecDepth 100000
set_option maxHeartbeats 1000000

/- loop.example/g00869/laws.big -/

def l_big (p0 : (List Int)) : Option (Bool) :=
  some (decide (4096 < (p0.length : Int)) : Bool)

/- loop.example/g00869/laws.roll -/
def l_roll_b0 (p0 : (List Int)) (v6 : Int) (s1 : Int) : Option (dice ⊕ ((Int) ⊕ (Int))) :=
  Option.bind (idx p0 v6) fun x30 =>
  some (.inr (.inr ((IntKind.u64.wrap ((IntKind.u64.wrap ((IntKind.u64.wrap (s1 * 1099511628211)) + (IntKind.u64.wrap x30))) + 3)) : Int)))
def l_roll (p0 : (List Int)) (p1 : Int) : Option (dice) :=
  Option.bind (cntM (l_roll_b0 p0) p0.length 0 ((IntKind.u64.wrap ((IntKind.u64.wrap (p1 * 7919)) + (IntKind.u64.wrap (p0.length : Int)))) : Int)) fun q2 =>
  aft (fun r => some r) (fun s3 =>
    some ((⟨p0, 0, s3⟩ : dice) : dice)) q2

/- (*loop.example/g00869/laws.dice).below -/

def l_dice_below (p0 : dice) (p1 : Int) : Option (Int × Int × Int) :=
  Option.bind (bif decide (p0.i < (p0.b.length : Int)) then
    Option.bind (idx p0.b p0.i) fun x41 =>
    some (((IntKind.i64.wrap ((IntKind.i64.wrap (IntKind.u64.wrap (BitVec.toNat (BitVec.ofInt (IntKind.bits IntKind.u64) (Int.fdiv (IntKind.u64.wrap ((IntKind.u64.wrap (p0.h * 6364136223846793005)) + 1442695040888963407)) (2 ^ (min (Int.toNat 33) (IntKind.bits IntKind.u64)))) &&& BitVec.ofInt (IntKind.bits IntKind.u64) 16777215)))) + (IntKind.i64.wrap x41))) : Int), ((IntKind.i64.wrap (p0.i + 1)) : Int))
  else
    some (((IntKind.i64.wrap (IntKind.u64.wrap (BitVec.toNat (BitVec.ofInt (IntKind.bits IntKind.u64) (Int.fdiv (IntKind.u64.wrap ((IntKind.u64.wrap (p0.h * 6364136223846793005)) + 1442695040888963407)) (2 ^ (min (Int.toNat 33) (IntKind.bits IntKind.u64)))) &&& BitVec.ofInt (IntKind.bits IntKind.u64) 16777215)))) : Int), (p0.i : Int))) fun q1 =>
  Option.bind (nz p1) fun _z55 =>
  some (((Int.tmod q1.1 p1) : Int), (q1.2 : Int), ((IntKind.u64.wrap ((IntKind.u64.wrap (p0.h * 6364136223846793005)) + 1442695040888963407)) : Int))

/- loop.example/g00869/laws.w9Machine -/
def l_w9Machine_b2 (p0 : dice) (x17 : Int × Int × Int) (q2 : Int) (v14 : Int) (s6 : (List Int) × (List Int) × Int × Int) : Option ((Machine × Int × Int) ⊕ (((List Int) × (List Int) × Int × Int) ⊕ ((List Int) × (List Int) × Int × Int))) :=
  Option.bind (l_dice_below (⟨p0.b, s6.2.2.1, s6.2.2.2⟩ : dice) (IntKind.i64.wrap (1 + x17.1))) fun x41 =>
  Option.bind (appS 8 s6.1 ([x41.1] : List Int)) fun x43 =>
  Option.bind (l_dice_below (⟨p0.b, x41.2.1, x41.2.2⟩ : dice) q2) fun x47 =>
  Option.bind (appS 8 s6.2.1 ([x47.1] : List Int)) fun x49 =>
  some (.inr (.inr ((x43 : (List Int)), (x49 : (List Int)), (x47.2.1 : Int), (x47.2.2 : Int))))
def l_w9Machine_b0 (p0 : dice) (x17 : Int × Int × Int) (q1 : Int) (q2 : Int) (v11 : Int) (s3 : Int × Int × (List (List Int)) × (List (List Int))) : Option ((Machine × Int × Int) ⊕ ((Int × Int × (List (List Int)) × (List (List Int))) ⊕ (Int × Int × (List (List Int)) × (List (List Int))))) :=
  Option.bind (rng q1) fun _ =>
  Option.bind (cntM (l_w9Machine_b2 p0 x17 q2) (Int.toNat (q1 - 0)) 0 ((([] : List Int) : (List Int)), (([] : List Int) : (List Int)), (s3.1 : Int), (s3.2.1 : Int))) fun q7 =>
  aft (fun r => some (.inl r)) (fun s8 =>
    Option.bind (appS 24 s3.2.2.1 ([s8.1] : List (List Int))) fun x54 =>
    Option.bind (appS 24 s3.2.2.2 ([s8.2.1] : List (List Int))) fun x60 =>
    some (.inr (.inr ((s8.2.2.1 : Int), (s8.2.2.2 : Int), (x54 : (List (List Int))), (x60 : (List (List Int))))))) q7
def l_w9Machine (p0 : dice) (p1 : Sig) (p2 : Int) : Option (Machine × Int × Int) :=
  Option.bind (l_dice_below p0 p2) fun x17 =>
  Option.bind (bif (p1.In == 2) then
    some (4 : Int)
  else
    some (2 : Int)) fun q1 =>
  Option.bind (bif (p1.Out == 2) then
    some (4 : Int)
  else
    some (2 : Int)) fun q2 =>
  Option.bind (rng (IntKind.i64.wrap (1 + x17.1))) fun _ =>
  Option.bind (cntM (l_w9Machine_b0 p0 x17 q1 q2) (Int.toNat ((IntKind.i64.wrap (1 + x17.1)) - 0)) 0 ((x17.2.1 : Int), (x17.2.2 : Int), (([] : List (List Int)) : (List (List Int))), (([] : List (List Int)) : (List (List Int))))) fun q4 =>
  aft (fun r => some r) (fun s5 =>
    some (((⟨s5.2.2.1, s5.2.2.2⟩ : Machine) : Machine), (s5.1 : Int), (s5.2.1 : Int))) q4

/- loop.example/g00869/impl.isSig -/

def i_isSig (p0 : Sig) : Option (Bool) :=
  Option.bind (bif decide (1 ≤ p0.In) then
  some (decide (p0.In ≤ 2))
  else
  some false) fun p10 =>
  Option.bind (bif p10 then
  some (decide (1 ≤ p0.Out))
  else
  some false) fun p15 =>
  Option.bind (bif p15 then
  some (decide (p0.Out ≤ 2))
  else
  some false) fun p20 =>
  some (p20 : Bool)

/- loop.example/g00869/impl.inputsOf -/

def i_inputsOf (p0 : Sig) : Option (Int) :=
  Option.bind (nn p0.In) fun _z5 =>
  some ((IntKind.i64.wrap (1 * 2 ^ (min (Int.toNat p0.In) (IntKind.bits IntKind.i64)))) : Int)

/- loop.example/g00869/impl.areLetters$1 -/

def i_areLetters_1 (p0 : Int) (c0 : Int) : Option (Bool) :=
  Option.bind (bif decide (p0 < 0) then
  some true
  else
  some (decide (c0 ≤ p0))) fun p10 =>
  some (p10 : Bool)

/- slices.IndexFunc[[]int64,int64] -/
def slices_IndexFunc_I_int64__i_areLetters_1_b0 (p0 : (List Int)) (c1_0 : Int) (v8 : Int) (s1 : Unit) : Option (Int ⊕ ((Unit) ⊕ (Unit))) :=
  Option.bind (idx p0 v8) fun x14 =>
  Option.bind (i_areLetters_1 x14 c1_0) fun x16 =>
  bif x16 then
    some (.inl (v8 : Int))
  else
    some (.inr (.inr ()))
def slices_IndexFunc_I_int64__i_areLetters_1 (p0 : (List Int)) (c1_0 : Int) : Option (Int) :=
  Option.bind (cntM (slices_IndexFunc_I_int64__i_areLetters_1_b0 p0 c1_0) p0.length 0 ()) fun q2 =>
  aft (fun r => some r) (fun s3 =>
    some ((-1) : Int)) q2

/- slices.ContainsFunc[[]int64,int64] -/

def slices_ContainsFunc_I_int64__i_areLetters_1 (p0 : (List Int)) (c1_0 : Int) : Option (Bool) :=
  Option.bind (slices_IndexFunc_I_int64__i_areLetters_1 p0 c1_0) fun x7 =>
  some (decide (0 ≤ x7) : Bool)

/- loop.example/g00869/impl.areLetters -/

def i_areLetters (p0 : (List Int)) (p1 : Int) : Option (Bool) :=
  Option.bind (slices_ContainsFunc_I_int64__i_areLetters_1 p0 p1) fun x7 =>
  some ((!x7) : Bool)

/- loop.example/g00869/impl.isMachine -/
def i_isMachine_b0 (p0 : Sig) (p1 : Machine) (v29 : Int) (s1 : Unit) : Option (Bool ⊕ ((Unit) ⊕ (Unit))) :=
  Option.bind (idx p1.Next v29) fun x32 =>
  Option.bind (i_inputsOf p0) fun x37 =>
  Option.bind (bif ((x32.length : Int) != x37) then
  some true
  else
  Option.bind (idx p1.Out v29) fun x43 =>
  some ((x43.length : Int) != (x32.length : Int))) fun p49 =>
  Option.bind (bif p49 then
  some true
  else
  Option.bind (i_areLetters x32 (p1.Next.length : Int)) fun x53 =>
  some (!x53)) fun p55 =>
  Option.bind (bif p55 then
  some true
  else
  Option.bind (idx p1.Out v29) fun x60 =>
  Option.bind (nn p0.Out) fun _z64 =>
  Option.bind (i_areLetters x60 (IntKind.i64.wrap (1 * 2 ^ (min (Int.toNat p0.Out) (IntKind.bits IntKind.i64))))) fun x65 =>
  some (!x65)) fun p67 =>
  bif p67 then
    some (.inl (false : Bool))
  else
    some (.inr (.inr ()))
def i_isMachine (p0 : Sig) (p1 : Machine) : Option (Bool) :=
  Option.bind (bif decide ((p1.Next.length : Int) < 1) then
  some true
  else
  some (decide (48 < (p1.Next.length : Int)))) fun p16 =>
  Option.bind (bif p16 then
  some true
  else
  some ((p1.Out.length : Int) != (p1.Next.length : Int))) fun p25 =>
  bif p25 then
    some (false : Bool)
  else
    Option.bind (cntM (i_isMachine_b0 p0 p1) p1.Next.length 0 ()) fun q2 =>
    aft (fun r => some r) (fun s3 =>
      some (true : Bool)) q2

/- strconv.FormatInt -/
def strconv_FormatInt (p0 p1 : Int) : Option (ByteArray) := fmtB p0 p1


/- loop.example/g00869/impl.decimal -/

def i_decimal (p0 : Int) : Option (ByteArray) :=
  Option.bind (strconv_FormatInt p0 10) fun x4 =>
  some (x4 : ByteArray)

/- strings.Join -/
def strings_Join (p0 : (List ByteArray)) (p1 : ByteArray) : Option (ByteArray) := joinB p0 p1


/- loop.example/g00869/impl.MachineText -/
def i_MachineText_b2 (p1 : Machine) (v23 : Int) (x26 : (List Int)) (v31 : Int) (s4 : (List ByteArray)) : Option (ByteArray ⊕ (((List ByteArray)) ⊕ ((List ByteArray)))) :=
  Option.bind (idx x26 v31) fun x34 =>
  Option.bind (idx p1.Out v23) fun x43 =>
  Option.bind (idx x43 v31) fun x46 =>
  Option.bind (i_decimal x34) fun x38 =>
  Option.bind (catB x38 (ByteArray.mk #[47])) fun x39 =>
  Option.bind (i_decimal x46) fun x48 =>
  Option.bind (catB x39 x48) fun x49 =>
  Option.bind (appS 16 s4 ([x49] : List ByteArray)) fun x51 =>
  some (.inr (.inr (x51 : (List ByteArray))))
def i_MachineText_b0 (p1 : Machine) (v23 : Int) (s1 : ByteArray) : Option (ByteArray ⊕ ((ByteArray) ⊕ (ByteArray))) :=
  Option.bind (idx p1.Next v23) fun x26 =>
  Option.bind (cntM (i_MachineText_b2 p1 v23 x26) x26.length 0 (([] : List ByteArray) : (List ByteArray))) fun q5 =>
  aft (fun r => some (.inl r)) (fun s6 =>
    Option.bind (strings_Join s6 (ByteArray.mk #[32])) fun x55 =>
    Option.bind (catB x55 (ByteArray.mk #[10])) fun x56 =>
    Option.bind (catB s1 x56) fun x57 =>
    some (.inr (.inr (x57 : ByteArray)))) q5
def i_MachineText (p0 : Sig) (p1 : Machine) : Option (ByteArray) :=
  Option.bind (i_isSig p0) fun x12 =>
  Option.bind (bif (!x12) then
  some true
  else
  Option.bind (i_isMachine p0 p1) fun x17 =>
  some (!x17)) fun p19 =>
  bif p19 then
    some ((ByteArray.mk #[]) : ByteArray)
  else
    Option.bind (cntM (i_MachineText_b0 p1) p1.Next.length 0 ((ByteArray.mk #[]) : ByteArray)) fun q2 =>
    aft (fun r => some r) (fun s3 =>
      some (s3 : ByteArray)) q2

/- strings.Split -/
def strings_Split (p0 p1 : ByteArray) : Option ((List ByteArray)) := splitS p0 p1


/- loop.example/g00869/impl.linesOf -/

def i_linesOf (p0 : ByteArray) : Option ((List ByteArray) × Bool) :=
  bif (eqB p0 (ByteArray.mk #[])) then
    some ((([] : List ByteArray) : (List ByteArray)), (true : Bool))
  else
    Option.bind (strings_Split p0 (ByteArray.mk #[10])) fun x8 =>
    Option.bind (idx x8 (IntKind.i64.wrap ((x8.length : Int) - 1))) fun x13 =>
    bif (eqB x13 (ByteArray.mk #[])) then
      Option.bind (subS x8 0 (IntKind.i64.wrap ((x8.length : Int) - 1))) fun x20 =>
      some ((x20 : (List ByteArray)), (true : Bool))
    else
      some ((x8 : (List ByteArray)), (false : Bool))

/- strings.Cut -/
def strings_Cut (p0 p1 : ByteArray) : Option (ByteArray × ByteArray × Bool) := cutB p0 p1


/- loop.example/g00869/impl.readNumber -/
def i_readNumber_b0 (p0 : ByteArray) (v7 : Int) (s1 : Int) : Option ((Int × Bool) ⊕ ((Int) ⊕ (Int))) :=
  Option.bind (idxB p0 v7) fun x33 =>
  Option.bind (bif decide (x33 < 48) then
  some true
  else
  Option.bind (idxB p0 v7) fun x38 =>
  some (decide (57 < x38))) fun p40 =>
  bif p40 then
    some (.inl ((0 : Int), (false : Bool)))
  else
    Option.bind (idxB p0 v7) fun x45 =>
    some (.inr (.inr ((IntKind.i64.wrap ((IntKind.i64.wrap (10 * s1)) + (IntKind.i64.wrap (IntKind.u8.wrap (x45 - 48))))) : Int)))
def i_readNumber (p0 : ByteArray) (p1 : Int) : Option (Int × Bool) :=
  Option.bind (bif (eqB p0 (ByteArray.mk #[])) then
  some true
  else
  some (decide (9 < (p0.size : Int)))) fun p14 =>
  Option.bind (bif p14 then
  some true
  else
  Option.bind (idxB p0 0) fun x17 =>
  Option.bind (bif (x17 == 48) then
  some (decide (1 < (p0.size : Int)))
  else
  some false) fun p23 =>
  some p23) fun p24 =>
  bif p24 then
    some ((0 : Int), (false : Bool))
  else
    Option.bind (rng (p0.size : Int)) fun _ =>
    Option.bind (cntM (i_readNumber_b0 p0) (Int.toNat ((p0.size : Int) - 0)) 0 (0 : Int)) fun q2 =>
    aft (fun r => some r) (fun s3 =>
      some ((s3 : Int), (decide (s3 < p1) : Bool))) q2

/- loop.example/g00869/impl.TextMachine -/
def i_TextMachine_b2 (x46 : (List ByteArray)) (v48 : Int) (s4 : (List Int) × (List Int)) : Option ((Machine × Bool) ⊕ (((List Int) × (List Int)) ⊕ ((List Int) × (List Int)))) :=
  Option.bind (idx x46 v48) fun x50 =>
  Option.bind (strings_Cut x50 (ByteArray.mk #[47])) fun x54 =>
  Option.bind (i_readNumber x54.1 48) fun x60 =>
  Option.bind (i_readNumber x54.2.1 4) fun x65 =>
  Option.bind (bif (!x54.2.2) then
  some true
  else
  some (!x60.2)) fun p73 =>
  Option.bind (bif p73 then
  some true
  else
  some (!x65.2)) fun p77 =>
  bif p77 then
    some (.inl (((⟨([] : List (List Int)), ([] : List (List Int))⟩ : Machine) : Machine), (false : Bool)))
  else
    Option.bind (appS 8 s4.1 ([x60.1] : List Int)) fun x82 =>
    Option.bind (appS 8 s4.2 ([x65.1] : List Int)) fun x86 =>
    some (.inr (.inr ((x82 : (List Int)), (x86 : (List Int)))))
def i_TextMachine_b0 (x33 : (List ByteArray) × Bool) (v39 : Int) (s1 : (List (List Int)) × (List (List Int))) : Option ((Machine × Bool) ⊕ (((List (List Int)) × (List (List Int))) ⊕ ((List (List Int)) × (List (List Int))))) :=
  Option.bind (idx x33.1 v39) fun x41 =>
  Option.bind (strings_Split x41 (ByteArray.mk #[32])) fun x46 =>
  Option.bind (cntM (i_TextMachine_b2 x46) x46.length 0 ((([] : List Int) : (List Int)), (([] : List Int) : (List Int)))) fun q5 =>
  aft (fun r => some (.inl r)) (fun s6 =>
    Option.bind (appS 24 s1.1 ([s6.1] : List (List Int))) fun x92 =>
    Option.bind (appS 24 s1.2 ([s6.2] : List (List Int))) fun x97 =>
    some (.inr (.inr ((x92 : (List (List Int))), (x97 : (List (List Int))))))) q5
def i_TextMachine (p0 : Sig) (p1 : ByteArray) : Option (Machine × Bool) :=
  Option.bind (i_isSig p0) fun x23 =>
  Option.bind (bif (!x23) then
  some true
  else
  some (decide (20000 < (p1.size : Int)))) fun p29 =>
  bif p29 then
    some (((⟨([] : List (List Int)), ([] : List (List Int))⟩ : Machine) : Machine), (false : Bool))
  else
    Option.bind (i_linesOf p1) fun x33 =>
    Option.bind (cntM (i_TextMachine_b0 x33) x33.1.length 0 ((([] : List (List Int)) : (List (List Int))), (([] : List (List Int)) : (List (List Int))))) fun q2 =>
    aft (fun r => some r) (fun s3 =>
      Option.bind (bif (!x33.2) then
      some true
      else
      Option.bind (i_isMachine p0 (⟨s3.1, s3.2⟩ : Machine)) fun x106 =>
      some (!x106)) fun p108 =>
      bif p108 then
        some (((⟨([] : List (List Int)), ([] : List (List Int))⟩ : Machine) : Machine), (false : Bool))
      else
        some (((⟨s3.1, s3.2⟩ : Machine) : Machine), (true : Bool))) q2

/- loop.example/g00869/laws.lines -/
def l_lines_b0 (p0 : ByteArray) (v5 : Int) (s1 : (List ByteArray) × Int) : Option ((List ByteArray) ⊕ (((List ByteArray) × Int) ⊕ ((List ByteArray) × Int))) :=
  Option.bind (idxB p0 v5) fun x15 =>
  Option.bind (bif (x15 == 10) then
    Option.bind (subB p0 s1.2 v5) fun x21 =>
    Option.bind (appS 16 s1.1 ([x21] : List ByteArray)) fun x23 =>
    some ((x23 : (List ByteArray)), ((IntKind.i64.wrap (v5 + 1)) : Int))
  else
    some ((s1.1 : (List ByteArray)), (s1.2 : Int))) fun q4 =>
  some (.inr (.inr ((q4.1 : (List ByteArray)), (q4.2 : Int))))
def l_lines (p0 : ByteArray) : Option ((List ByteArray)) :=
  Option.bind (rng (p0.size : Int)) fun _ =>
  Option.bind (cntM (l_lines_b0 p0) (Int.toNat ((p0.size : Int) - 0)) 0 ((([] : List ByteArray) : (List ByteArray)), (0 : Int))) fun q2 =>
  aft (fun r => some r) (fun s3 =>
    some (s3.1 : (List ByteArray))) q2

/- loop.example/g00869/laws.likeInts -/
def l_likeInts_b0 (p0 : (List Int)) (p1 : (List Int)) (v5 : Int) (s1 : Unit) : Option (Bool ⊕ ((Unit) ⊕ (Unit))) :=
  Option.bind (idx p0 v5) fun x19 =>
  Option.bind (idx p1 v5) fun x23 =>
  bif (x19 != x23) then
    some (.inl (false : Bool))
  else
    some (.inr (.inr ()))
def l_likeInts (p0 : (List Int)) (p1 : (List Int)) : Option (Bool) :=
  bif ((p0.length : Int) != (p1.length : Int)) then
    some (false : Bool)
  else
    Option.bind (cntM (l_likeInts_b0 p0 p1) p0.length 0 ()) fun q2 =>
    aft (fun r => some r) (fun s3 =>
      some (true : Bool)) q2

/- loop.example/g00869/laws.FnMachineWords -/
def l_FnMachineWords_b0 (x25 : Machine × Int × Int) (x32 : Machine × Bool) (v9 : Int) (s1 : Unit) : Option (Bool ⊕ ((Unit) ⊕ (Unit))) :=
  Option.bind (idx x32.1.Next v9) fun x74 =>
  Option.bind (idx x25.1.Next v9) fun x79 =>
  Option.bind (l_likeInts x74 x79) fun x81 =>
  Option.bind (bif (!x81) then
  some true
  else
  Option.bind (idx x32.1.Out v9) fun x87 =>
  Option.bind (idx x25.1.Out v9) fun x92 =>
  Option.bind (l_likeInts x87 x92) fun x94 =>
  some (!x94)) fun p96 =>
  bif p96 then
    some (.inl (false : Bool))
  else
    some (.inr (.inr ()))
def l_FnMachineWords (p0 : (List Int)) : Option (Bool) :=
  Option.bind (l_big p0) fun x13 =>
  bif x13 then
    some (true : Bool)
  else
    Option.bind (l_roll p0 929) fun x15 =>
    Option.bind (l_dice_below x15 2) fun x17 =>
    Option.bind (l_dice_below (⟨x15.b, x17.2.1, x17.2.2⟩ : dice) 2) fun x20 =>
    Option.bind (l_w9Machine (⟨x15.b, x20.2.1, x20.2.2⟩ : dice) (⟨(IntKind.i64.wrap (1 + x17.1)), (IntKind.i64.wrap (1 + x20.1))⟩ : Sig) 6) fun x25 =>
    Option.bind (i_MachineText (⟨(IntKind.i64.wrap (1 + x17.1)), (IntKind.i64.wrap (1 + x20.1))⟩ : Sig) x25.1) fun x28 =>
    Option.bind (i_TextMachine (⟨(IntKind.i64.wrap (1 + x17.1)), (IntKind.i64.wrap (1 + x20.1))⟩ : Sig) x28) fun x32 =>
    Option.bind (bif (!x32.2) then
    some true
    else
    some ((x32.1.Next.length : Int) != (x25.1.Next.length : Int))) fun p45 =>
    Option.bind (bif p45 then
    some true
    else
    some ((x32.1.Out.length : Int) != (x25.1.Out.length : Int))) fun p54 =>
    Option.bind (bif p54 then
    some true
    else
    Option.bind (l_lines x28) fun x57 =>
    some ((x57.length : Int) != (x25.1.Next.length : Int))) fun p63 =>
    bif p63 then
      some (false : Bool)
    else
      Option.bind (cntM (l_FnMachineWords_b0 x25 x32) x25.1.Next.length 0 ()) fun q2 =>
      aft (fun r => some r) (fun s3 =>
        Option.bind (catB x28 (ByteArray.mk #[48, 47, 48])) fun x100 =>
        Option.bind (i_TextMachine (⟨(IntKind.i64.wrap (1 + x17.1)), (IntKind.i64.wrap (1 + x20.1))⟩ : Sig) x100) fun x101 =>
        some ((!x101.2) : Bool)) q2

/- loop.example/g00869/spec.l1In -/

def s_l1In (p0 : Int) (p1 : Int) (p2 : Int) : Option (Bool) :=
  Option.bind (bif decide (p1 ≤ p0) then
  some (decide (p0 ≤ p2))
  else
  some false) fun p14 =>
  some (p14 : Bool)

/- loop.example/g00869/spec.SigOk -/

def s_SigOk (p0 : Sig) : Option (Bool) :=
  Option.bind (s_l1In p0.In 1 2) fun x5 =>
  Option.bind (bif x5 then
  Option.bind (s_l1In p0.Out 1 2) fun x9 =>
  some x9
  else
  some false) fun p10 =>
  some (p10 : Bool)

/- loop.example/g00869/spec.l23Power -/
def s_l23Power_b0  (s1 : Int × Int) : Option (Int ⊕ ((Int × Int) ⊕ (Int × Int))) :=
  bif decide (0 < s1.1) then
    some (.inr (.inr (((IntKind.i64.wrap (s1.1 - 1)) : Int), ((IntKind.i64.wrap (s1.2 * 2)) : Int))))
  else
    some (.inr (.inl ((s1.1 : Int), (s1.2 : Int))))
def s_l23Power (p0 : Int) : Option (Int) :=
  Option.bind (whileM s_l23Power_b0 (2 ^ 64) ((p0 : Int), (1 : Int))) fun q2 =>
  aft (fun r => some r) (fun s3 =>
    some (s3.2 : Int)) q2

/- loop.example/g00869/spec.l29Ins -/

def s_l29Ins (p0 : Sig) : Option (Int) :=
  Option.bind (s_l23Power p0.In) fun x5 =>
  some (x5 : Int)

/- loop.example/g00869/spec.l23Below -/
def s_l23Below_b0 (p0 : (List Int)) (p1 : Int) (v5 : Int) (s1 : Unit) : Option (Bool ⊕ ((Unit) ⊕ (Unit))) :=
  Option.bind (idx p0 v5) fun x14 =>
  Option.bind (s_l1In x14 0 (IntKind.i64.wrap (p1 - 1))) fun x18 =>
  bif (!x18) then
    some (.inl (false : Bool))
  else
    some (.inr (.inr ()))
def s_l23Below (p0 : (List Int)) (p1 : Int) : Option (Bool) :=
  Option.bind (cntM (s_l23Below_b0 p0 p1) p0.length 0 ()) fun q2 =>
  aft (fun r => some r) (fun s3 =>
    some (true : Bool)) q2

/- loop.example/g00869/spec.MachineOk -/
def s_MachineOk_b0 (p0 : Sig) (p1 : Machine) (v6 : Int) (s1 : Unit) : Option (Bool ⊕ ((Unit) ⊕ (Unit))) :=
  Option.bind (idx p1.Next v6) fun x37 =>
  Option.bind (s_l29Ins p0) fun x41 =>
  Option.bind (bif ((x37.length : Int) != x41) then
  some true
  else
  Option.bind (idx p1.Out v6) fun x47 =>
  Option.bind (idx p1.Next v6) fun x53 =>
  some ((x47.length : Int) != (x53.length : Int))) fun p57 =>
  Option.bind (bif p57 then
  some true
  else
  Option.bind (idx p1.Next v6) fun x62 =>
  Option.bind (s_l23Below x62 (p1.Next.length : Int)) fun x65 =>
  some (!x65)) fun p67 =>
  Option.bind (bif p67 then
  some true
  else
  Option.bind (idx p1.Out v6) fun x72 =>
  Option.bind (s_l23Power p0.Out) fun x76 =>
  Option.bind (s_l23Below x72 x76) fun x77 =>
  some (!x77)) fun p79 =>
  bif p79 then
    some (.inl (false : Bool))
  else
    some (.inr (.inr ()))
def s_MachineOk (p0 : Sig) (p1 : Machine) : Option (Bool) :=
  Option.bind (s_SigOk p0) fun x11 =>
  Option.bind (bif (!x11) then
  some true
  else
  Option.bind (s_l1In (p1.Next.length : Int) 1 48) fun x15 =>
  some (!x15)) fun p17 =>
  Option.bind (bif p17 then
  some true
  else
  some ((p1.Out.length : Int) != (p1.Next.length : Int))) fun p26 =>
  bif p26 then
    some (false : Bool)
  else
    Option.bind (cntM (s_MachineOk_b0 p0 p1) p1.Next.length 0 ()) fun q2 =>
    aft (fun r => some r) (fun s3 =>
      some (true : Bool)) q2

/- loop.example/g00869/spec.l1Int -/
def s_l1Int_b0  (s1 : Int × ByteArray) : Option (ByteArray ⊕ ((Int × ByteArray) ⊕ (Int × ByteArray))) :=
  Option.bind (bif (eqB s1.2 (ByteArray.mk #[])) then
  some true
  else
  some (s1.1 != 0)) fun p13 =>
  bif p13 then
    Option.bind (bif decide ((Int.tmod s1.1 10) < 0) then
      some ((IntKind.i64.wrap (0 - (Int.tmod s1.1 10))) : Int)
    else
      some ((Int.tmod s1.1 10) : Int)) fun q4 =>
    Option.bind (catB (strB ([(IntKind.u8.wrap (IntKind.i64.wrap (48 + q4)))] : List Int)) s1.2) fun x26 =>
    some (.inr (.inr (((IntKind.i64.wrap (Int.tdiv s1.1 10)) : Int), (x26 : ByteArray))))
  else
    some (.inr (.inl ((s1.1 : Int), (s1.2 : ByteArray))))
def s_l1Int (p0 : Int) : Option (ByteArray) :=
  Option.bind (whileM s_l1Int_b0 (2 ^ 64) ((p0 : Int), ((ByteArray.mk #[]) : ByteArray))) fun q2 =>
  aft (fun r => some r) (fun s3 =>
    Option.bind (bif decide (p0 < 0) then
      Option.bind (catB (ByteArray.mk #[45]) s3.2) fun x31 =>
      some (x31 : ByteArray)
    else
      some (s3.2 : ByteArray)) fun q5 =>
    some (q5 : ByteArray)) q2

/- loop.example/g00869/spec.l1Words -/
def s_l1Words_b0 (p0 : (List ByteArray)) (p1 : ByteArray) (v6 : Int) (s1 : ByteArray) : Option (ByteArray ⊕ ((ByteArray) ⊕ (ByteArray))) :=
  Option.bind (bif decide (0 < v6) then
    Option.bind (catB s1 p1) fun x17 =>
    some (x17 : ByteArray)
  else
    some (s1 : ByteArray)) fun q4 =>
  Option.bind (idx p0 v6) fun x21 =>
  Option.bind (catB q4 x21) fun x23 =>
  some (.inr (.inr (x23 : ByteArray)))
def s_l1Words (p0 : (List ByteArray)) (p1 : ByteArray) : Option (ByteArray) :=
  Option.bind (cntM (s_l1Words_b0 p0 p1) p0.length 0 ((ByteArray.mk #[]) : ByteArray)) fun q2 =>
  aft (fun r => some r) (fun s3 =>
    some (s3 : ByteArray)) q2

/- loop.example/g00869/spec.MachineText -/
def s_MachineText_b2 (p1 : Machine) (v6 : Int) (s4 : (List ByteArray) × Int) : Option (ByteArray ⊕ (((List ByteArray) × Int) ⊕ ((List ByteArray) × Int))) :=
  Option.bind (idx p1.Next v6) fun x26 =>
  bif decide (s4.2 < (x26.length : Int)) then
    Option.bind (idx p1.Next v6) fun x36 =>
    Option.bind (idx x36 s4.2) fun x39 =>
    Option.bind (idx p1.Out v6) fun x46 =>
    Option.bind (idx x46 s4.2) fun x49 =>
    Option.bind (s_l1Int x39) fun x41 =>
    Option.bind (catB x41 (ByteArray.mk #[47])) fun x42 =>
    Option.bind (s_l1Int x49) fun x51 =>
    Option.bind (catB x42 x51) fun x52 =>
    Option.bind (appS 16 s4.1 ([x52] : List ByteArray)) fun x54 =>
    some (.inr (.inr ((x54 : (List ByteArray)), ((IntKind.i64.wrap (s4.2 + 1)) : Int))))
  else
    some (.inr (.inl ((s4.1 : (List ByteArray)), (s4.2 : Int))))
def s_MachineText_b0 (p1 : Machine) (v6 : Int) (s1 : (List Int)) : Option (ByteArray ⊕ (((List Int)) ⊕ ((List Int)))) :=
  Option.bind (whileM (s_MachineText_b2 p1 v6) (2 ^ 64) ((([] : List ByteArray) : (List ByteArray)), (0 : Int))) fun q5 =>
  aft (fun r => some (.inl r)) (fun s6 =>
    Option.bind (s_l1Words s6.1 (ByteArray.mk #[32])) fun x57 =>
    Option.bind (appS 1 s1 (bytesB x57)) fun x58 =>
    Option.bind (appS 1 x58 ([10] : List Int)) fun x61 =>
    some (.inr (.inr (x61 : (List Int))))) q5
def s_MachineText (p0 : Sig) (p1 : Machine) : Option (ByteArray) :=
  Option.bind (s_MachineOk p0 p1) fun x11 =>
  bif (!x11) then
    some ((ByteArray.mk #[]) : ByteArray)
  else
    Option.bind (cntM (s_MachineText_b0 p1) p1.Next.length 0 (([] : List Int) : (List Int))) fun q2 =>
    aft (fun r => some r) (fun s3 =>
      some ((strB s3) : ByteArray)) q2

/- loop.example/g00869/spec.l1Split -/
def s_l1Split_b0 (p0 : ByteArray) (p1 : Int) (s1 : (List ByteArray) × Int × Int) : Option ((List ByteArray) ⊕ (((List ByteArray) × Int × Int) ⊕ ((List ByteArray) × Int × Int))) :=
  bif decide (s1.2.2 ≤ (p0.size : Int)) then
    Option.bind (bif (s1.2.2 == (p0.size : Int)) then
    some true
    else
    Option.bind (idxB p0 s1.2.2) fun x22 =>
    some (x22 == p1)) fun p25 =>
    Option.bind (bif p25 then
      Option.bind (subB p0 s1.2.1 s1.2.2) fun x30 =>
      Option.bind (appS 16 s1.1 ([x30] : List ByteArray)) fun x32 =>
      some ((x32 : (List ByteArray)), ((IntKind.i64.wrap (s1.2.2 + 1)) : Int))
    else
      some ((s1.1 : (List ByteArray)), (s1.2.1 : Int))) fun q4 =>
    some (.inr (.inr ((q4.1 : (List ByteArray)), (q4.2 : Int), ((IntKind.i64.wrap (s1.2.2 + 1)) : Int))))
  else
    some (.inr (.inl ((s1.1 : (List ByteArray)), (s1.2.1 : Int), (s1.2.2 : Int))))
def s_l1Split (p0 : ByteArray) (p1 : Int) : Option ((List ByteArray)) :=
  Option.bind (whileM (s_l1Split_b0 p0 p1) (2 ^ 64) ((([] : List ByteArray) : (List ByteArray)), (0 : Int), (0 : Int))) fun q2 =>
  aft (fun r => some r) (fun s3 =>
    some (s3.1 : (List ByteArray))) q2

/- loop.example/g00869/spec.l13Lines -/

def s_l13Lines (p0 : ByteArray) : Option ((List ByteArray) × Bool) :=
  Option.bind (s_l1Split p0 10) fun x7 =>
  Option.bind (subS x7 0 (IntKind.i64.wrap ((x7.length : Int) - 1))) fun x13 =>
  Option.bind (idx x7 (IntKind.i64.wrap ((x7.length : Int) - 1))) fun x16 =>
  some ((x13 : (List ByteArray)), ((!(eqB x16 (ByteArray.mk #[]))) : Bool))

/- loop.example/g00869/spec.l1Read -/
def s_l1Read_b0 (p0 : ByteArray) (v5 : Int) (s1 : Int) : Option ((Int × Bool) ⊕ ((Int) ⊕ (Int))) :=
  Option.bind (idxB p0 v5) fun x32 =>
  Option.bind (bif decide (x32 < 48) then
  some true
  else
  Option.bind (idxB p0 v5) fun x37 =>
  some (decide (57 < x37))) fun p39 =>
  bif p39 then
    some (.inl ((0 : Int), (false : Bool)))
  else
    Option.bind (idxB p0 v5) fun x44 =>
    some (.inr (.inr ((IntKind.i64.wrap ((IntKind.i64.wrap (s1 * 10)) + (IntKind.i64.wrap (IntKind.u8.wrap (x44 - 48))))) : Int)))
def s_l1Read (p0 : ByteArray) : Option (Int × Bool) :=
  Option.bind (bif decide ((p0.size : Int) < 1) then
  some true
  else
  some (decide (9 < (p0.size : Int)))) fun p13 =>
  Option.bind (bif p13 then
  some true
  else
  Option.bind (idxB p0 0) fun x16 =>
  Option.bind (bif (x16 == 48) then
  some (decide (1 < (p0.size : Int)))
  else
  some false) fun p22 =>
  some p22) fun p23 =>
  bif p23 then
    some ((0 : Int), (false : Bool))
  else
    Option.bind (rng (p0.size : Int)) fun _ =>
    Option.bind (cntM (s_l1Read_b0 p0) (Int.toNat ((p0.size : Int) - 0)) 0 (0 : Int)) fun q2 =>
    aft (fun r => some r) (fun s3 =>
      some ((s3 : Int), (true : Bool))) q2

/- loop.example/g00869/spec.l29State -/
def s_l29State_b0 (p0 : Machine) (x16 : (List ByteArray)) (v9 : Int) (s1 : (List Int) × (List Int)) : Option ((Machine × Bool) ⊕ (((List Int) × (List Int)) ⊕ ((List Int) × (List Int)))) :=
  Option.bind (idx x16 v9) fun x27 =>
  Option.bind (s_l1Split x27 47) fun x29 =>
  bif ((x29.length : Int) != 2) then
    some (.inl ((p0 : Machine), (false : Bool)))
  else
    Option.bind (idx x29 0) fun x36 =>
    Option.bind (s_l1Read x36) fun x38 =>
    Option.bind (idx x29 1) fun x43 =>
    Option.bind (s_l1Read x43) fun x45 =>
    Option.bind (bif (!x38.2) then
    some true
    else
    some (!x45.2)) fun p53 =>
    bif p53 then
      some (.inl ((p0 : Machine), (false : Bool)))
    else
      Option.bind (appS 8 s1.1 ([x38.1] : List Int)) fun x58 =>
      Option.bind (appS 8 s1.2 ([x45.1] : List Int)) fun x62 =>
      some (.inr (.inr ((x58 : (List Int)), (x62 : (List Int)))))
def s_l29State (p0 : Machine) (p1 : ByteArray) : Option (Machine × Bool) :=
  Option.bind (s_l1Split p1 32) fun x16 =>
  Option.bind (cntM (s_l29State_b0 p0 x16) x16.length 0 ((([] : List Int) : (List Int)), (([] : List Int) : (List Int)))) fun q2 =>
  aft (fun r => some r) (fun s3 =>
    Option.bind (appS 24 p0.Next ([s3.1] : List (List Int))) fun x67 =>
    Option.bind (appS 24 p0.Out ([s3.2] : List (List Int))) fun x72 =>
    some (((⟨x67, x72⟩ : Machine) : Machine), (true : Bool))) q2

/- loop.example/g00869/spec.TextMachine -/
def s_TextMachine_b0 (x18 : (List ByteArray) × Bool) (v9 : Int) (s1 : (List (List Int)) × (List (List Int))) : Option ((Machine × Bool) ⊕ (((List (List Int)) × (List (List Int))) ⊕ ((List (List Int)) × (List (List Int))))) :=
  Option.bind (idx x18.1 v9) fun x32 =>
  Option.bind (s_l29State (⟨s1.1, s1.2⟩ : Machine) x32) fun x34 =>
  bif (!x34.2) then
    some (.inl (((⟨([] : List (List Int)), ([] : List (List Int))⟩ : Machine) : Machine), (false : Bool)))
  else
    some (.inr (.inr ((x34.1.Next : (List (List Int))), (x34.1.Out : (List (List Int))))))
def s_TextMachine (p0 : Sig) (p1 : ByteArray) : Option (Machine × Bool) :=
  bif decide (20000 < (p1.size : Int)) then
    some (((⟨([] : List (List Int)), ([] : List (List Int))⟩ : Machine) : Machine), (false : Bool))
  else
    Option.bind (s_l13Lines p1) fun x18 =>
    Option.bind (cntM (s_TextMachine_b0 x18) x18.1.length 0 ((([] : List (List Int)) : (List (List Int))), (([] : List (List Int)) : (List (List Int))))) fun q2 =>
    aft (fun r => some r) (fun s3 =>
      Option.bind (bif x18.2 then
      some true
      else
      Option.bind (s_MachineOk p0 (⟨s3.1, s3.2⟩ : Machine)) fun x45 =>
      some (!x45)) fun p47 =>
      bif p47 then
        some (((⟨([] : List (List Int)), ([] : List (List Int))⟩ : Machine) : Machine), (false : Bool))
      else
        some (((⟨s3.1, s3.2⟩ : Machine) : Machine), (true : Bool))) q2

end Go.Proofs.YtnpmbkaoeihdmaaDoor
