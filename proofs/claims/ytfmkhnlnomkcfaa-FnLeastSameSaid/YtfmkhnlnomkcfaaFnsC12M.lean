/- The functions on data. By program. -/
import Derived.Test.YtfmkhnlnomkcfaaTypes
set_option linter.unusedVariables false
set_option linter.unusedSimpArgs false
namespace Go.Proofs.Ytfmkhnlnomkcfaa
open Go Go.Wk Go.Proofs
set_option maxRecDepth 100000
set_option maxHeartbeats 1000000

/- loop.example/g00869/laws.big -/

def l_big (p0 : (List Int)) : Option (Bool) :=
  some (decide (4096 < (p0.length : Int)) : Bool)

/- loop.example/g00869/laws.roll -/
def l_roll_b0 (p0 : (List Int)) (v6 : Int) (s1 : Int) : Option (dice ⊕ ((Int) ⊕ (Int))) :=
  Option.bind (idx p0 v6) fun x30 =>
  some (.inr (.inr ((IntKind.u64.wrap ((IntKind.u64.wrap ((IntKind.u64.wrap (s1 * 1099511628211)) + (IntKind.u64.wrap x30))) + 3)) : Int)))
def l_roll (p0 : (List Int)) (p1 : Int) : Option (dice) :=
  Option.bind (cntM (l_roll_b0 p0) p0.length 0 ((IntKind.u64.wrap ((IntKind.u64.wrap (p1 * 7919)) + (IntKind.u64.wrap (p0.length : Int)))) : Int)) fun q2 =>
  aft (fun r => some r) (fun s3 =>
    some ((⟨p0, 0, s3⟩ : dice) : dice)) q2

/- (*loop.example/g00869/laws.dice).below -/

def l_dice_below (p0 : dice) (p1 : Int) : Option (Int × Int × Int) :=
  Option.bind (bif decide (p0.i < (p0.b.length : Int)) then
    Option.bind (idx p0.b p0.i) fun x41 =>
    some (((IntKind.i64.wrap ((IntKind.i64.wrap (IntKind.u64.wrap (BitVec.toNat (BitVec.ofInt (IntKind.bits IntKind.u64) (Int.fdiv (IntKind.u64.wrap ((IntKind.u64.wrap (p0.h * 6364136223846793005)) + 1442695040888963407)) (2 ^ (min (Int.toNat 33) (IntKind.bits IntKind.u64)))) &&& BitVec.ofInt (IntKind.bits IntKind.u64) 16777215)))) + (IntKind.i64.wrap x41))) : Int), ((IntKind.i64.wrap (p0.i + 1)) : Int))
  else
    some (((IntKind.i64.wrap (IntKind.u64.wrap (BitVec.toNat (BitVec.ofInt (IntKind.bits IntKind.u64) (Int.fdiv (IntKind.u64.wrap ((IntKind.u64.wrap (p0.h * 6364136223846793005)) + 1442695040888963407)) (2 ^ (min (Int.toNat 33) (IntKind.bits IntKind.u64)))) &&& BitVec.ofInt (IntKind.bits IntKind.u64) 16777215)))) : Int), (p0.i : Int))) fun q1 =>
  Option.bind (nz p1) fun _z55 =>
  some (((Int.tmod q1.1 p1) : Int), (q1.2 : Int), ((IntKind.u64.wrap ((IntKind.u64.wrap (p0.h * 6364136223846793005)) + 1442695040888963407)) : Int))

/- loop.example/g00869/laws.w9Machine -/
def l_w9Machine_b2 (p0 : dice) (x17 : Int × Int × Int) (q2 : Int) (v14 : Int) (s6 : (List Int) × (List Int) × Int × Int) : Option ((Machine × Int × Int) ⊕ (((List Int) × (List Int) × Int × Int) ⊕ ((List Int) × (List Int) × Int × Int))) :=
  Option.bind (l_dice_below (⟨p0.b, s6.2.2.1, s6.2.2.2⟩ : dice) (IntKind.i64.wrap (1 + x17.1))) fun x41 =>
  Option.bind (appS 8 s6.1 ([x41.1] : List Int)) fun x43 =>
  Option.bind (l_dice_below (⟨p0.b, x41.2.1, x41.2.2⟩ : dice) q2) fun x47 =>
  Option.bind (appS 8 s6.2.1 ([x47.1] : List Int)) fun x49 =>
  some (.inr (.inr ((x43 : (List Int)), (x49 : (List Int)), (x47.2.1 : Int), (x47.2.2 : Int))))
def l_w9Machine_b0 (p0 : dice) (x17 : Int × Int × Int) (q1 : Int) (q2 : Int) (v11 : Int) (s3 : Int × Int × (List (List Int)) × (List (List Int))) : Option ((Machine × Int × Int) ⊕ ((Int × Int × (List (List Int)) × (List (List Int))) ⊕ (Int × Int × (List (List Int)) × (List (List Int))))) :=
  Option.bind (rng q1) fun _ =>
  Option.bind (cntM (l_w9Machine_b2 p0 x17 q2) (Int.toNat (q1 - 0)) 0 ((([] : List Int) : (List Int)), (([] : List Int) : (List Int)), (s3.1 : Int), (s3.2.1 : Int))) fun q7 =>
  aft (fun r => some (.inl r)) (fun s8 =>
    Option.bind (appS 24 s3.2.2.1 ([s8.1] : List (List Int))) fun x54 =>
    Option.bind (appS 24 s3.2.2.2 ([s8.2.1] : List (List Int))) fun x60 =>
    some (.inr (.inr ((s8.2.2.1 : Int), (s8.2.2.2 : Int), (x54 : (List (List Int))), (x60 : (List (List Int))))))) q7
def l_w9Machine (p0 : dice) (p1 : Sig) (p2 : Int) : Option (Machine × Int × Int) :=
  Option.bind (l_dice_below p0 p2) fun x17 =>
  Option.bind (bif (p1.In == 2) then
    some (4 : Int)
  else
    some (2 : Int)) fun q1 =>
  Option.bind (bif (p1.Out == 2) then
    some (4 : Int)
  else
    some (2 : Int)) fun q2 =>
  Option.bind (rng (IntKind.i64.wrap (1 + x17.1))) fun _ =>
  Option.bind (cntM (l_w9Machine_b0 p0 x17 q1 q2) (Int.toNat ((IntKind.i64.wrap (1 + x17.1)) - 0)) 0 ((x17.2.1 : Int), (x17.2.2 : Int), (([] : List (List Int)) : (List (List Int))), (([] : List (List Int)) : (List (List Int))))) fun q4 =>
  aft (fun r => some r) (fun s5 =>
    some (((⟨s5.2.2.1, s5.2.2.2⟩ : Machine) : Machine), (s5.1 : Int), (s5.2.1 : Int))) q4

/- loop.example/g00869/impl.isSig -/

def i_isSig (p0 : Sig) : Option (Bool) :=
  Option.bind (bif decide (1 ≤ p0.In) then
  some (decide (p0.In ≤ 2))
  else
  some false) fun p10 =>
  Option.bind (bif p10 then
  some (decide (1 ≤ p0.Out))
  else
  some false) fun p15 =>
  Option.bind (bif p15 then
  some (decide (p0.Out ≤ 2))
  else
  some false) fun p20 =>
  some (p20 : Bool)

/- loop.example/g00869/impl.inputsOf -/

def i_inputsOf (p0 : Sig) : Option (Int) :=
  Option.bind (nn p0.In) fun _z5 =>
  some ((IntKind.i64.wrap (1 * 2 ^ (min (Int.toNat p0.In) (IntKind.bits IntKind.i64)))) : Int)

/- loop.example/g00869/impl.areLetters$1 -/

def i_areLetters_1 (p0 : Int) (c0 : Int) : Option (Bool) :=
  Option.bind (bif decide (p0 < 0) then
  some true
  else
  some (decide (c0 ≤ p0))) fun p10 =>
  some (p10 : Bool)

/- slices.IndexFunc[[]int64,int64] -/
def slices_IndexFunc_I_int64__i_areLetters_1_b0 (p0 : (List Int)) (c1_0 : Int) (v8 : Int) (s1 : Unit) : Option (Int ⊕ ((Unit) ⊕ (Unit))) :=
  Option.bind (idx p0 v8) fun x14 =>
  Option.bind (i_areLetters_1 x14 c1_0) fun x16 =>
  bif x16 then
    some (.inl (v8 : Int))
  else
    some (.inr (.inr ()))
def slices_IndexFunc_I_int64__i_areLetters_1 (p0 : (List Int)) (c1_0 : Int) : Option (Int) :=
  Option.bind (cntM (slices_IndexFunc_I_int64__i_areLetters_1_b0 p0 c1_0) p0.length 0 ()) fun q2 =>
  aft (fun r => some r) (fun s3 =>
    some ((-1) : Int)) q2

/- slices.ContainsFunc[[]int64,int64] -/

def slices_ContainsFunc_I_int64__i_areLetters_1 (p0 : (List Int)) (c1_0 : Int) : Option (Bool) :=
  Option.bind (slices_IndexFunc_I_int64__i_areLetters_1 p0 c1_0) fun x7 =>
  some (decide (0 ≤ x7) : Bool)

/- loop.example/g00869/impl.areLetters -/

def i_areLetters (p0 : (List Int)) (p1 : Int) : Option (Bool) :=
  Option.bind (slices_ContainsFunc_I_int64__i_areLetters_1 p0 p1) fun x7 =>
  some ((!x7) : Bool)

/- loop.example/g00869/impl.isMachine -/
def i_isMachine_b0 (p0 : Sig) (p1 : Machine) (v29 : Int) (s1 : Unit) : Option (Bool ⊕ ((Unit) ⊕ (Unit))) :=
  Option.bind (idx p1.Next v29) fun x32 =>
  Option.bind (i_inputsOf p0) fun x37 =>
  Option.bind (bif ((x32.length : Int) != x37) then
  some true
  else
  Option.bind (idx p1.Out v29) fun x43 =>
  some ((x43.length : Int) != (x32.length : Int))) fun p49 =>
  Option.bind (bif p49 then
  some true
  else
  Option.bind (i_areLetters x32 (p1.Next.length : Int)) fun x53 =>
  some (!x53)) fun p55 =>
  Option.bind (bif p55 then
  some true
  else
  Option.bind (idx p1.Out v29) fun x60 =>
  Option.bind (nn p0.Out) fun _z64 =>
  Option.bind (i_areLetters x60 (IntKind.i64.wrap (1 * 2 ^ (min (Int.toNat p0.Out) (IntKind.bits IntKind.i64))))) fun x65 =>
  some (!x65)) fun p67 =>
  bif p67 then
    some (.inl (false : Bool))
  else
    some (.inr (.inr ()))
def i_isMachine (p0 : Sig) (p1 : Machine) : Option (Bool) :=
  Option.bind (bif decide ((p1.Next.length : Int) < 1) then
  some true
  else
  some (decide (48 < (p1.Next.length : Int)))) fun p16 =>
  Option.bind (bif p16 then
  some true
  else
  some ((p1.Out.length : Int) != (p1.Next.length : Int))) fun p25 =>
  bif p25 then
    some (false : Bool)
  else
    Option.bind (cntM (i_isMachine_b0 p0 p1) p1.Next.length 0 ()) fun q2 =>
    aft (fun r => some r) (fun s3 =>
      some (true : Bool)) q2

/- slices.Equal[[]int64,int64] -/
def slices_Equal_I_int64_b0 (p0 : (List Int)) (p1 : (List Int)) (v13 : Int) (s1 : Unit) : Option (Bool ⊕ ((Unit) ⊕ (Unit))) :=
  Option.bind (idx p0 v13) fun x18 =>
  Option.bind (idx p1 v13) fun x22 =>
  bif (x18 != x22) then
    some (.inl (false : Bool))
  else
    some (.inr (.inr ()))
def slices_Equal_I_int64 (p0 : (List Int)) (p1 : (List Int)) : Option (Bool) :=
  bif ((p0.length : Int) != (p1.length : Int)) then
    some (false : Bool)
  else
    Option.bind (cntM (slices_Equal_I_int64_b0 p0 p1) p0.length 0 ()) fun q2 =>
    aft (fun r => some r) (fun s3 =>
      some (true : Bool)) q2

/- loop.example/g00869/impl.alikeStates -/
def i_alikeStates_b2 (p0 : Machine) (v17 : Int) (v22 : Int) (s4 : (List Int)) : Option ((List Int) ⊕ (((List Int)) ⊕ ((List Int)))) :=
  Option.bind (idx p0.Out v17) fun x28 =>
  Option.bind (idx p0.Out v22) fun x33 =>
  Option.bind (slices_Equal_I_int64 x28 x33) fun x35 =>
  bif x35 then
    Option.bind (idx s4 v17) fun x39 =>
    Option.bind (setI s4 v17 v22) fun y7 =>
    some (.inr (.inl (y7 : (List Int))))
  else
    some (.inr (.inr (s4 : (List Int))))
def i_alikeStates_b0 (p0 : Machine) (v17 : Int) (s1 : (List Int)) : Option ((List Int) ⊕ (((List Int)) ⊕ ((List Int)))) :=
  Option.bind (rng (IntKind.i64.wrap (v17 + 1))) fun _ =>
  Option.bind (cntM (i_alikeStates_b2 p0 v17) (Int.toNat ((IntKind.i64.wrap (v17 + 1)) - 0)) 0 (s1 : (List Int))) fun q5 =>
  aft (fun r => some (.inl r)) (fun s6 =>
    some (.inr (.inr (s6 : (List Int))))) q5
def i_alikeStates_b10 (p0 : Machine) (s7 : (List Int)) (v47 : Int) (v52 : Int) (v70 : Int) (s16 : Bool) : Option ((List Int) ⊕ ((Bool) ⊕ (Bool))) :=
  Option.bind (bif s16 then
  Option.bind (idx p0.Next v47) fun x79 =>
  Option.bind (idx x79 v70) fun x82 =>
  Option.bind (idx s7 x82) fun x84 =>
  Option.bind (idx p0.Next v52) fun x90 =>
  Option.bind (idx x90 v70) fun x93 =>
  Option.bind (idx s7 x93) fun x95 =>
  some (x84 == x95)
  else
  some false) fun p98 =>
  some (.inr (.inr (p98 : Bool)))
def i_alikeStates_b8 (p0 : Machine) (s7 : (List Int)) (v47 : Int) (v52 : Int) (s13 : (List Int)) : Option ((List Int) ⊕ (((List Int)) ⊕ ((List Int)))) :=
  Option.bind (idx s7 v47) fun x57 =>
  Option.bind (idx s7 v52) fun x61 =>
  Option.bind (idx p0.Next v47) fun x67 =>
  Option.bind (cntM (i_alikeStates_b10 p0 s7 v47 v52) x67.length 0 ((x57 == x61) : Bool)) fun q17 =>
  aft (fun r => some (.inl r)) (fun s18 =>
    bif s18 then
      Option.bind (idx s13 v47) fun x104 =>
      Option.bind (setI s13 v47 v52) fun y9 =>
      some (.inr (.inl (y9 : (List Int))))
    else
      some (.inr (.inr (s13 : (List Int))))) q17
def i_alikeStates_b6 (p0 : Machine) (s7 : (List Int)) (v47 : Int) (s10 : (List Int)) : Option ((List Int) ⊕ (((List Int)) ⊕ ((List Int)))) :=
  Option.bind (rng (IntKind.i64.wrap (v47 + 1))) fun _ =>
  Option.bind (cntM (i_alikeStates_b8 p0 s7 v47) (Int.toNat ((IntKind.i64.wrap (v47 + 1)) - 0)) 0 (s10 : (List Int))) fun q14 =>
  aft (fun r => some (.inl r)) (fun s15 =>
    some (.inr (.inr (s15 : (List Int))))) q14
def i_alikeStates_b4 (p0 : Machine) (s7 : (List Int)) : Option ((List Int) ⊕ (((List Int)) ⊕ ((List Int)))) :=
  Option.bind (mkS 8 (s7.length : Int) (0 : Int)) fun x44 =>
  Option.bind (cntM (i_alikeStates_b6 p0 s7) s7.length 0 (x44 : (List Int))) fun q11 =>
  aft (fun r => some (.inl r)) (fun s12 =>
    Option.bind (slices_Equal_I_int64 s12 s7) fun x109 =>
    bif x109 then
      some (.inl (s7 : (List Int)))
    else
      some (.inr (.inr (s12 : (List Int))))) q11
def i_alikeStates (p0 : Machine) : Option ((List Int)) :=
  Option.bind (mkS 8 (p0.Next.length : Int) (0 : Int)) fun x14 =>
  Option.bind (cntM (i_alikeStates_b0 p0) x14.length 0 (x14 : (List Int))) fun q2 =>
  aft (fun r => some r) (fun s3 =>
    Option.bind (whileM (i_alikeStates_b4 p0) (2 ^ 64) (s3 : (List Int))) fun q8 =>
    aft (fun r => some r) (fun s9 =>
      none) q8) q2

/- slices.Index[[]int64,int64] -/
def slices_Index_I_int64_b0 (p0 : (List Int)) (p1 : Int) (v8 : Int) (s1 : Unit) : Option (Int ⊕ ((Unit) ⊕ (Unit))) :=
  Option.bind (idx p0 v8) fun x14 =>
  bif (p1 == x14) then
    some (.inl (v8 : Int))
  else
    some (.inr (.inr ()))
def slices_Index_I_int64 (p0 : (List Int)) (p1 : Int) : Option (Int) :=
  Option.bind (cntM (slices_Index_I_int64_b0 p0 p1) p0.length 0 ()) fun q2 =>
  aft (fun r => some r) (fun s3 =>
    some ((-1) : Int)) q2

/- loop.example/g00869/impl.LeastOf -/
def i_LeastOf_b2 (x24 : (List Int)) (x43 : (List Int)) (v46 : Int) (s4 : (List Int) × (List Int)) : Option (Machine ⊕ (((List Int) × (List Int)) ⊕ ((List Int) × (List Int)))) :=
  Option.bind (idx x43 v46) fun x48 =>
  Option.bind (idx x24 x48) fun x53 =>
  Option.bind (slices_Index_I_int64 s4.1 x53) fun x55 =>
  Option.bind (bif decide (x55 < 0) then
    Option.bind (idx x24 x48) fun x63 =>
    Option.bind (appS 8 s4.1 ([x63] : List Int)) fun x66 =>
    some ((x66 : (List Int)), ((s4.1.length : Int) : Int))
  else
    some ((s4.1 : (List Int)), (x55 : Int))) fun q7 =>
  Option.bind (appS 8 s4.2 ([q7.2] : List Int)) fun x70 =>
  some (.inr (.inr ((q7.1 : (List Int)), (x70 : (List Int)))))
def i_LeastOf_b0 (p1 : Machine) (x24 : (List Int)) (s1 : (List Int) × Int × (List (List Int)) × (List (List Int))) : Option (Machine ⊕ (((List Int) × Int × (List (List Int)) × (List (List Int))) ⊕ ((List Int) × Int × (List (List Int)) × (List (List Int))))) :=
  bif decide (s1.2.1 < (s1.1.length : Int)) then
    Option.bind (idx s1.1 s1.2.1) fun x41 =>
    Option.bind (idx p1.Next x41) fun x43 =>
    Option.bind (cntM (i_LeastOf_b2 x24 x43) x43.length 0 ((s1.1 : (List Int)), (([] : List Int) : (List Int)))) fun q5 =>
    aft (fun r => some (.inl r)) (fun s6 =>
      Option.bind (appS 24 s1.2.2.1 ([s6.2] : List (List Int))) fun x76 =>
      Option.bind (idx s6.1 s1.2.1) fun x85 =>
      Option.bind (idx p1.Out x85) fun x87 =>
      Option.bind (appS 8 ([] : List Int) x87) fun x89 =>
      Option.bind (appS 24 s1.2.2.2 ([x89] : List (List Int))) fun x91 =>
      some (.inr (.inr ((s6.1 : (List Int)), ((IntKind.i64.wrap (s1.2.1 + 1)) : Int), (x76 : (List (List Int))), (x91 : (List (List Int))))))) q5
  else
    some (.inr (.inl ((s1.1 : (List Int)), (s1.2.1 : Int), (s1.2.2.1 : (List (List Int))), (s1.2.2.2 : (List (List Int))))))
def i_LeastOf (p0 : Sig) (p1 : Machine) : Option (Machine) :=
  Option.bind (i_isSig p0) fun x14 =>
  Option.bind (bif (!x14) then
  some true
  else
  Option.bind (i_isMachine p0 p1) fun x19 =>
  some (!x19)) fun p21 =>
  bif p21 then
    some ((⟨([] : List (List Int)), ([] : List (List Int))⟩ : Machine) : Machine)
  else
    Option.bind (i_alikeStates p1) fun x24 =>
    Option.bind (idx x24 0) fun x26 =>
    Option.bind (whileM (i_LeastOf_b0 p1 x24) (2 ^ 64) ((([x26] : List Int) : (List Int)), (0 : Int), (([] : List (List Int)) : (List (List Int))), (([] : List (List Int)) : (List (List Int))))) fun q2 =>
    aft (fun r => some r) (fun s3 =>
      some ((⟨s3.2.2.1, s3.2.2.2⟩ : Machine) : Machine)) q2

/- loop.example/g00869/laws.w9Ins -/
def l_w9Ins_b0 (p0 : dice) (p1 : Int) (s1 : Int × (List Int) × Int × Int) : Option (((List Int) × Int × Int) ⊕ ((Int × (List Int) × Int × Int) ⊕ (Int × (List Int) × Int × Int))) :=
  bif decide (0 < s1.1) then
    Option.bind (l_dice_below (⟨p0.b, s1.2.2.1, s1.2.2.2⟩ : dice) p1) fun x16 =>
    Option.bind (appS 8 s1.2.1 ([x16.1] : List Int)) fun x18 =>
    some (.inr (.inr (((IntKind.i64.wrap (s1.1 - 1)) : Int), (x18 : (List Int)), (x16.2.1 : Int), (x16.2.2 : Int))))
  else
    some (.inr (.inl ((s1.1 : Int), (s1.2.1 : (List Int)), (s1.2.2.1 : Int), (s1.2.2.2 : Int))))
def l_w9Ins (p0 : dice) (p1 : Int) (p2 : Int) : Option ((List Int) × Int × Int) :=
  Option.bind (whileM (l_w9Ins_b0 p0 p1) (2 ^ 64) ((p2 : Int), (([] : List Int) : (List Int)), (p0.i : Int), (p0.h : Int))) fun q2 =>
  aft (fun r => some r) (fun s3 =>
    some ((s3.2.1 : (List Int)), (s3.2.2.1 : Int), (s3.2.2.2 : Int))) q2

/- loop.example/g00869/spec.l1In -/

def s_l1In (p0 : Int) (p1 : Int) (p2 : Int) : Option (Bool) :=
  Option.bind (bif decide (p1 ≤ p0) then
  some (decide (p0 ≤ p2))
  else
  some false) fun p14 =>
  some (p14 : Bool)

/- loop.example/g00869/spec.SigOk -/

def s_SigOk (p0 : Sig) : Option (Bool) :=
  Option.bind (s_l1In p0.In 1 2) fun x5 =>
  Option.bind (bif x5 then
  Option.bind (s_l1In p0.Out 1 2) fun x9 =>
  some x9
  else
  some false) fun p10 =>
  some (p10 : Bool)

/- loop.example/g00869/spec.l23Power -/
def s_l23Power_b0  (s1 : Int × Int) : Option (Int ⊕ ((Int × Int) ⊕ (Int × Int))) :=
  bif decide (0 < s1.1) then
    some (.inr (.inr (((IntKind.i64.wrap (s1.1 - 1)) : Int), ((IntKind.i64.wrap (s1.2 * 2)) : Int))))
  else
    some (.inr (.inl ((s1.1 : Int), (s1.2 : Int))))
def s_l23Power (p0 : Int) : Option (Int) :=
  Option.bind (whileM s_l23Power_b0 (2 ^ 64) ((p0 : Int), (1 : Int))) fun q2 =>
  aft (fun r => some r) (fun s3 =>
    some (s3.2 : Int)) q2

/- loop.example/g00869/spec.l29Ins -/

def s_l29Ins (p0 : Sig) : Option (Int) :=
  Option.bind (s_l23Power p0.In) fun x5 =>
  some (x5 : Int)

/- loop.example/g00869/spec.l23Below -/
def s_l23Below_b0 (p0 : (List Int)) (p1 : Int) (v5 : Int) (s1 : Unit) : Option (Bool ⊕ ((Unit) ⊕ (Unit))) :=
  Option.bind (idx p0 v5) fun x14 =>
  Option.bind (s_l1In x14 0 (IntKind.i64.wrap (p1 - 1))) fun x18 =>
  bif (!x18) then
    some (.inl (false : Bool))
  else
    some (.inr (.inr ()))
def s_l23Below (p0 : (List Int)) (p1 : Int) : Option (Bool) :=
  Option.bind (cntM (s_l23Below_b0 p0 p1) p0.length 0 ()) fun q2 =>
  aft (fun r => some r) (fun s3 =>
    some (true : Bool)) q2

/- loop.example/g00869/spec.MachineOk -/
def s_MachineOk_b0 (p0 : Sig) (p1 : Machine) (v6 : Int) (s1 : Unit) : Option (Bool ⊕ ((Unit) ⊕ (Unit))) :=
  Option.bind (idx p1.Next v6) fun x37 =>
  Option.bind (s_l29Ins p0) fun x41 =>
  Option.bind (bif ((x37.length : Int) != x41) then
  some true
  else
  Option.bind (idx p1.Out v6) fun x47 =>
  Option.bind (idx p1.Next v6) fun x53 =>
  some ((x47.length : Int) != (x53.length : Int))) fun p57 =>
  Option.bind (bif p57 then
  some true
  else
  Option.bind (idx p1.Next v6) fun x62 =>
  Option.bind (s_l23Below x62 (p1.Next.length : Int)) fun x65 =>
  some (!x65)) fun p67 =>
  Option.bind (bif p67 then
  some true
  else
  Option.bind (idx p1.Out v6) fun x72 =>
  Option.bind (s_l23Power p0.Out) fun x76 =>
  Option.bind (s_l23Below x72 x76) fun x77 =>
  some (!x77)) fun p79 =>
  bif p79 then
    some (.inl (false : Bool))
  else
    some (.inr (.inr ()))
def s_MachineOk (p0 : Sig) (p1 : Machine) : Option (Bool) :=
  Option.bind (s_SigOk p0) fun x11 =>
  Option.bind (bif (!x11) then
  some true
  else
  Option.bind (s_l1In (p1.Next.length : Int) 1 48) fun x15 =>
  some (!x15)) fun p17 =>
  Option.bind (bif p17 then
  some true
  else
  some ((p1.Out.length : Int) != (p1.Next.length : Int))) fun p26 =>
  bif p26 then
    some (false : Bool)
  else
    Option.bind (cntM (s_MachineOk_b0 p0 p1) p1.Next.length 0 ()) fun q2 =>
    aft (fun r => some r) (fun s3 =>
      some (true : Bool)) q2

/- loop.example/g00869/impl.canRun -/

def i_canRun (p0 : Sig) (p1 : Machine) (p2 : (List Int)) : Option (Bool) :=
  Option.bind (i_isSig p0) fun x8 =>
  Option.bind (bif x8 then
  Option.bind (i_isMachine p0 p1) fun x12 =>
  some x12
  else
  some false) fun p13 =>
  Option.bind (bif p13 then
  some (decide ((p2.length : Int) ≤ 600))
  else
  some false) fun p18 =>
  Option.bind (bif p18 then
  Option.bind (i_inputsOf p0) fun x22 =>
  Option.bind (i_areLetters p2 x22) fun x23 =>
  some x23
  else
  some false) fun p24 =>
  some (p24 : Bool)

/- loop.example/g00869/impl.OutputsFor -/
def i_OutputsFor_b0 (p1 : Machine) (p2 : (List Int)) (v19 : Int) (s1 : (List Int) × Int) : Option ((List Int) ⊕ (((List Int) × Int) ⊕ ((List Int) × Int))) :=
  Option.bind (idx p2 v19) fun x21 =>
  Option.bind (idx p1.Out s1.2) fun x27 =>
  Option.bind (idx x27 x21) fun x30 =>
  Option.bind (appS 8 s1.1 ([x30] : List Int)) fun x33 =>
  Option.bind (idx p1.Next s1.2) fun x37 =>
  Option.bind (idx x37 x21) fun x40 =>
  some (.inr (.inr ((x33 : (List Int)), (x40 : Int))))
def i_OutputsFor (p0 : Sig) (p1 : Machine) (p2 : (List Int)) : Option ((List Int)) :=
  Option.bind (i_canRun p0 p1 p2) fun x14 =>
  bif (!x14) then
    some (([] : List Int) : (List Int))
  else
    Option.bind (cntM (i_OutputsFor_b0 p1 p2) p2.length 0 ((([] : List Int) : (List Int)), (0 : Int))) fun q2 =>
    aft (fun r => some r) (fun s3 =>
      some (s3.1 : (List Int))) q2

/- loop.example/g00869/spec.l29Inputs -/

def s_l29Inputs (p0 : Sig) (p1 : (List Int)) : Option (Bool) :=
  Option.bind (bif decide ((p1.length : Int) ≤ 600) then
  Option.bind (s_l29Ins p0) fun x11 =>
  Option.bind (s_l23Below p1 x11) fun x12 =>
  some x12
  else
  some false) fun p13 =>
  some (p13 : Bool)

/- loop.example/g00869/spec.l29Letters -/
def s_l29Letters_b0 (p0 : Sig) (p1 : Machine) (p3 : (List Int)) (v10 : Int) (s1 : Int × (List Int)) : Option ((List Int) ⊕ ((Int × (List Int)) ⊕ (Int × (List Int)))) :=
  Option.bind (idx p3 v10) fun x26 =>
  Option.bind (idx p3 v10) fun x35 =>
  Option.bind (idx p1.Out s1.1) fun x22 =>
  Option.bind (idx x22 x26) fun x28 =>
  Option.bind (s_l29Ins p0) fun x31 =>
  Option.bind (appS 8 s1.2 ([(IntKind.i64.wrap ((IntKind.i64.wrap (x28 * x31)) + x35))] : List Int)) fun x39 =>
  Option.bind (idx p3 v10) fun x47 =>
  Option.bind (idx p1.Next s1.1) fun x43 =>
  Option.bind (idx x43 x47) fun x49 =>
  some (.inr (.inr ((x49 : Int), (x39 : (List Int)))))
def s_l29Letters (p0 : Sig) (p1 : Machine) (p2 : Int) (p3 : (List Int)) : Option ((List Int)) :=
  Option.bind (cntM (s_l29Letters_b0 p0 p1 p3) p3.length 0 ((p2 : Int), (([] : List Int) : (List Int)))) fun q2 =>
  aft (fun r => some r) (fun s3 =>
    some (s3.2 : (List Int))) q2

/- loop.example/g00869/spec.OutputsFor -/
def s_OutputsFor_b0 (p0 : Sig) (x25 : (List Int)) (v9 : Int) (s1 : (List Int)) : Option ((List Int) ⊕ (((List Int)) ⊕ ((List Int)))) :=
  Option.bind (idx x25 v9) fun x35 =>
  Option.bind (s_l29Ins p0) fun x38 =>
  Option.bind (nz x38) fun _z39 =>
  Option.bind (appS 8 s1 ([(IntKind.i64.wrap (Int.tdiv x35 x38))] : List Int)) fun x41 =>
  some (.inr (.inr (x41 : (List Int))))
def s_OutputsFor (p0 : Sig) (p1 : Machine) (p2 : (List Int)) : Option ((List Int)) :=
  Option.bind (s_MachineOk p0 p1) fun x13 =>
  Option.bind (bif (!x13) then
  some true
  else
  Option.bind (s_l29Inputs p0 p2) fun x18 =>
  some (!x18)) fun p20 =>
  bif p20 then
    some (([] : List Int) : (List Int))
  else
    Option.bind (s_l29Letters p0 p1 0 p2) fun x25 =>
    Option.bind (cntM (s_OutputsFor_b0 p0 x25) x25.length 0 (([] : List Int) : (List Int))) fun q2 =>
    aft (fun r => some r) (fun s3 =>
      some (s3 : (List Int))) q2

/- loop.example/g00869/laws.likeInts -/
def l_likeInts_b0 (p0 : (List Int)) (p1 : (List Int)) (v5 : Int) (s1 : Unit) : Option (Bool ⊕ ((Unit) ⊕ (Unit))) :=
  Option.bind (idx p0 v5) fun x19 =>
  Option.bind (idx p1 v5) fun x23 =>
  bif (x19 != x23) then
    some (.inl (false : Bool))
  else
    some (.inr (.inr ()))
def l_likeInts (p0 : (List Int)) (p1 : (List Int)) : Option (Bool) :=
  bif ((p0.length : Int) != (p1.length : Int)) then
    some (false : Bool)
  else
    Option.bind (cntM (l_likeInts_b0 p0 p1) p0.length 0 ()) fun q2 =>
    aft (fun r => some r) (fun s3 =>
      some (true : Bool)) q2

/- slices.Index[[][2]int64,[2]int64] -/
def slices_Index_2_int64_2_int64_b0 (p0 : (List (Int × Int))) (p1 : (Int × Int)) (v8 : Int) (s1 : Unit) : Option (Int ⊕ ((Unit) ⊕ (Unit))) :=
  Option.bind (idx p0 v8) fun x14 =>
  bif ((p1.1 == x14.1) && (p1.2 == x14.2)) then
    some (.inl (v8 : Int))
  else
    some (.inr (.inr ()))
def slices_Index_2_int64_2_int64 (p0 : (List (Int × Int))) (p1 : (Int × Int)) : Option (Int) :=
  Option.bind (cntM (slices_Index_2_int64_2_int64_b0 p0 p1) p0.length 0 ()) fun q2 =>
  aft (fun r => some r) (fun s3 =>
    some ((-1) : Int)) q2

/- slices.Contains[[][2]int64,[2]int64] -/

def slices_Contains_2_int64_2_int64 (p0 : (List (Int × Int))) (p1 : (Int × Int)) : Option (Bool) :=
  Option.bind (slices_Index_2_int64_2_int64 p0 p1) fun x7 =>
  some (decide (0 ≤ x7) : Bool)

/- loop.example/g00869/impl.SameMachine -/
def i_SameMachine_b2 (p1 : Machine) (p2 : Machine) (x38 : (Int × Int)) (x43 : (Int × Int)) (v64 : Int) (s4 : (List (Int × Int))) : Option (Bool ⊕ (((List (Int × Int))) ⊕ ((List (Int × Int))))) :=
  Option.bind (idx p1.Next x38.1) fun x70 =>
  Option.bind (idx x70 v64) fun x73 =>
  Option.bind (idx p2.Next x43.2) fun x78 =>
  Option.bind (idx x78 v64) fun x81 =>
  Option.bind (slices_Contains_2_int64_2_int64 s4 (x73, x81)) fun x86 =>
  Option.bind (bif (!x86) then
    Option.bind (appS 16 s4 ([(x73, x81)] : List (Int × Int))) fun x91 =>
    some (x91 : (List (Int × Int)))
  else
    some (s4 : (List (Int × Int)))) fun q7 =>
  some (.inr (.inr (q7 : (List (Int × Int)))))
def i_SameMachine_b0 (p1 : Machine) (p2 : Machine) (s1 : (List (Int × Int)) × Int) : Option (Bool ⊕ (((List (Int × Int)) × Int) ⊕ ((List (Int × Int)) × Int))) :=
  bif decide (s1.2 < (s1.1.length : Int)) then
    Option.bind (idx s1.1 s1.2) fun x38 =>
    Option.bind (idx s1.1 s1.2) fun x43 =>
    Option.bind (idx p1.Out x38.1) fun x49 =>
    Option.bind (idx p2.Out x43.2) fun x54 =>
    Option.bind (slices_Equal_I_int64 x49 x54) fun x56 =>
    bif (!x56) then
      some (.inl (false : Bool))
    else
      Option.bind (idx p1.Next x38.1) fun x61 =>
      Option.bind (cntM (i_SameMachine_b2 p1 p2 x38 x43) x61.length 0 (s1.1 : (List (Int × Int)))) fun q5 =>
      aft (fun r => some (.inl r)) (fun s6 =>
        some (.inr (.inr ((s6 : (List (Int × Int))), ((IntKind.i64.wrap (s1.2 + 1)) : Int))))) q5
  else
    some (.inr (.inl ((s1.1 : (List (Int × Int))), (s1.2 : Int))))
def i_SameMachine (p0 : Sig) (p1 : Machine) (p2 : Machine) : Option (Bool) :=
  Option.bind (i_isSig p0) fun x14 =>
  Option.bind (bif (!x14) then
  some true
  else
  Option.bind (i_isMachine p0 p1) fun x19 =>
  some (!x19)) fun p21 =>
  Option.bind (bif p21 then
  some true
  else
  Option.bind (i_isMachine p0 p2) fun x25 =>
  some (!x25)) fun p27 =>
  bif p27 then
    some (false : Bool)
  else
    Option.bind (whileM (i_SameMachine_b0 p1 p2) (2 ^ 64) ((([(0, 0)] : List (Int × Int)) : (List (Int × Int))), (0 : Int))) fun q2 =>
    aft (fun r => some r) (fun s3 =>
      some (true : Bool)) q2

/- loop.example/g00869/spec.l29Near -/
def s_l29Near_b0 (p0 : Machine) (p1 : (List Int)) (p2 : Int) (p3 : Int) (s1 : Int) : Option (Bool ⊕ ((Int) ⊕ (Int))) :=
  Option.bind (idx p0.Next p2) fun x23 =>
  bif decide (s1 < (x23.length : Int)) then
    Option.bind (idx p0.Out p2) fun x32 =>
    Option.bind (idx x32 s1) fun x35 =>
    Option.bind (idx p0.Out p3) fun x40 =>
    Option.bind (idx x40 s1) fun x43 =>
    Option.bind (bif (x35 != x43) then
    some true
    else
    Option.bind (idx p0.Next p2) fun x51 =>
    Option.bind (idx x51 s1) fun x54 =>
    Option.bind (idx p1 x54) fun x56 =>
    Option.bind (idx p0.Next p3) fun x62 =>
    Option.bind (idx x62 s1) fun x65 =>
    Option.bind (idx p1 x65) fun x67 =>
    some (x56 != x67)) fun p70 =>
    bif p70 then
      some (.inl (false : Bool))
    else
      some (.inr (.inr ((IntKind.i64.wrap (s1 + 1)) : Int)))
  else
    some (.inr (.inl (s1 : Int)))
def s_l29Near (p0 : Machine) (p1 : (List Int)) (p2 : Int) (p3 : Int) : Option (Bool) :=
  Option.bind (idx p1 p2) fun x12 =>
  Option.bind (idx p1 p3) fun x16 =>
  bif (x12 != x16) then
    some (false : Bool)
  else
    Option.bind (whileM (s_l29Near_b0 p0 p1 p2 p3) (2 ^ 64) (0 : Int)) fun q2 =>
    aft (fun r => some r) (fun s3 =>
      some (true : Bool)) q2

/- loop.example/g00869/spec.l7Same -/
def s_l7Same_b0 (p0 : (List Int)) (p1 : (List Int)) (v5 : Int) (s1 : Unit) : Option (Bool ⊕ ((Unit) ⊕ (Unit))) :=
  Option.bind (idx p0 v5) fun x19 =>
  Option.bind (idx p1 v5) fun x23 =>
  bif (x19 != x23) then
    some (.inl (false : Bool))
  else
    some (.inr (.inr ()))
def s_l7Same (p0 : (List Int)) (p1 : (List Int)) : Option (Bool) :=
  bif ((p0.length : Int) != (p1.length : Int)) then
    some (false : Bool)
  else
    Option.bind (cntM (s_l7Same_b0 p0 p1) p0.length 0 ()) fun q2 =>
    aft (fun r => some r) (fun s3 =>
      some (true : Bool)) q2

/- loop.example/g00869/spec.l29Alike -/
def s_l29Alike_b4 (p0 : Machine) (s1 : (List Int)) (v5 : Int) (s7 : Int) : Option ((List Int) ⊕ ((Int) ⊕ (Int))) :=
  Option.bind (s_l29Near p0 s1 s7 v5) fun x22 =>
  bif (!x22) then
    some (.inr (.inr ((IntKind.i64.wrap (s7 + 1)) : Int)))
  else
    some (.inr (.inl (s7 : Int)))
def s_l29Alike_b2 (p0 : Machine) (s1 : (List Int)) (v5 : Int) (s4 : (List Int)) : Option ((List Int) ⊕ (((List Int)) ⊕ ((List Int)))) :=
  Option.bind (whileM (s_l29Alike_b4 p0 s1 v5) (2 ^ 64) (0 : Int)) fun q8 =>
  aft (fun r => some (.inl r)) (fun s9 =>
    Option.bind (appS 8 s4 ([s9] : List Int)) fun x29 =>
    some (.inr (.inr (x29 : (List Int))))) q8
def s_l29Alike_b0 (p0 : Machine) (s1 : (List Int)) : Option ((List Int) ⊕ (((List Int)) ⊕ ((List Int)))) :=
  Option.bind (cntM (s_l29Alike_b2 p0 s1) s1.length 0 (([] : List Int) : (List Int))) fun q5 =>
  aft (fun r => some (.inl r)) (fun s6 =>
    Option.bind (s_l7Same s6 s1) fun x32 =>
    bif x32 then
      some (.inl (s1 : (List Int)))
    else
      some (.inr (.inr (s6 : (List Int))))) q5
def s_l29Alike (p0 : Machine) : Option ((List Int)) :=
  Option.bind (mkS 8 (p0.Next.length : Int) (0 : Int)) fun x10 =>
  Option.bind (whileM (s_l29Alike_b0 p0) (2 ^ 64) (x10 : (List Int))) fun q2 =>
  aft (fun r => some r) (fun s3 =>
    none) q2

/- loop.example/g00869/spec.AlikeStates -/

def s_AlikeStates (p0 : Sig) (p1 : Machine) : Option ((List Int)) :=
  Option.bind (s_MachineOk p0 p1) fun x7 =>
  bif (!x7) then
    some (([] : List Int) : (List Int))
  else
    Option.bind (s_l29Alike p1) fun x11 =>
    some (x11 : (List Int))

/- loop.example/g00869/spec.l1Place -/
def s_l1Place_b0 (p0 : (List Int)) (p1 : Int) (v5 : Int) (s1 : Unit) : Option (Int ⊕ ((Unit) ⊕ (Unit))) :=
  Option.bind (idx p0 v5) fun x14 =>
  bif (x14 == p1) then
    some (.inl (v5 : Int))
  else
    some (.inr (.inr ()))
def s_l1Place (p0 : (List Int)) (p1 : Int) : Option (Int) :=
  Option.bind (cntM (s_l1Place_b0 p0 p1) p0.length 0 ()) fun q2 =>
  aft (fun r => some r) (fun s3 =>
    some ((-1) : Int)) q2

/- loop.example/g00869/spec.l29Found -/
def s_l29Found_b2 (x20 : (List Int)) (v6 : Int) (s4 : (List Int)) : Option ((List Int) ⊕ (((List Int)) ⊕ ((List Int)))) :=
  Option.bind (idx x20 v6) fun x31 =>
  Option.bind (s_l1Place s4 x31) fun x33 =>
  Option.bind (bif decide (x33 < 0) then
    Option.bind (idx x20 v6) fun x38 =>
    Option.bind (appS 8 s4 ([x38] : List Int)) fun x41 =>
    some (x41 : (List Int))
  else
    some (s4 : (List Int))) fun q7 =>
  some (.inr (.inr (q7 : (List Int))))
def s_l29Found_b0 (p0 : Machine) (s1 : (List Int) × Int) : Option ((List Int) ⊕ (((List Int) × Int) ⊕ ((List Int) × Int))) :=
  bif decide (s1.2 < (s1.1.length : Int)) then
    Option.bind (idx s1.1 s1.2) fun x18 =>
    Option.bind (idx p0.Next x18) fun x20 =>
    Option.bind (cntM (s_l29Found_b2 x20) x20.length 0 (s1.1 : (List Int))) fun q5 =>
    aft (fun r => some (.inl r)) (fun s6 =>
      some (.inr (.inr ((s6 : (List Int)), ((IntKind.i64.wrap (s1.2 + 1)) : Int))))) q5
  else
    some (.inr (.inl ((s1.1 : (List Int)), (s1.2 : Int))))
def s_l29Found (p0 : Machine) : Option ((List Int)) :=
  Option.bind (whileM (s_l29Found_b0 p0) (2 ^ 64) ((([0] : List Int) : (List Int)), (0 : Int))) fun q2 =>
  aft (fun r => some r) (fun s3 =>
    some (s3.1 : (List Int))) q2

/- loop.example/g00869/spec.FoundStates -/

def s_FoundStates (p0 : Sig) (p1 : Machine) : Option ((List Int)) :=
  Option.bind (s_MachineOk p0 p1) fun x7 =>
  bif (!x7) then
    some (([] : List Int) : (List Int))
  else
    Option.bind (s_l29Found p1) fun x11 =>
    some (x11 : (List Int))

/- loop.example/g00869/laws.FnLeastSame -/
def l_FnLeastSame_b0 (x61 : (List Int)) (x64 : (List Int)) (v10 : Int) (s1 : Unit) : Option (Bool ⊕ ((Unit) ⊕ (Unit))) :=
  Option.bind (idx x61 v10) fun x73 =>
  Option.bind (bif (x73 != v10) then
  some true
  else
  some ((x64.length : Int) != (x61.length : Int))) fun p83 =>
  Option.bind (bif p83 then
  some true
  else
  Option.bind (idx x64 v10) fun x87 =>
  some (x87 != v10)) fun p91 =>
  bif p91 then
    some (.inl (false : Bool))
  else
    some (.inr (.inr ()))
def l_FnLeastSame (p0 : (List Int)) : Option (Bool) :=
  Option.bind (l_big p0) fun x12 =>
  bif x12 then
    some (true : Bool)
  else
    Option.bind (l_roll p0 925) fun x14 =>
    Option.bind (l_dice_below x14 2) fun x16 =>
    Option.bind (l_w9Machine (⟨x14.b, x16.2.1, x16.2.2⟩ : dice) (⟨(IntKind.i64.wrap (1 + x16.1)), 1⟩ : Sig) 6) fun x21 =>
    Option.bind (i_LeastOf (⟨(IntKind.i64.wrap (1 + x16.1)), 1⟩ : Sig) x21.1) fun x24 =>
    Option.bind (l_w9Ins (⟨x14.b, x21.2.1, x21.2.2⟩ : dice) 2 12) fun x26 =>
    Option.bind (s_MachineOk (⟨(IntKind.i64.wrap (1 + x16.1)), 1⟩ : Sig) x24) fun x29 =>
    Option.bind (bif (!x29) then
    some true
    else
    some (decide ((x21.1.Next.length : Int) < (x24.Next.length : Int)))) fun p39 =>
    Option.bind (bif p39 then
    some true
    else
    Option.bind (i_OutputsFor (⟨(IntKind.i64.wrap (1 + x16.1)), 1⟩ : Sig) x24 x26.1) fun x44 =>
    Option.bind (s_OutputsFor (⟨(IntKind.i64.wrap (1 + x16.1)), 1⟩ : Sig) x21.1 x26.1) fun x48 =>
    Option.bind (l_likeInts x44 x48) fun x49 =>
    some (!x49)) fun p51 =>
    Option.bind (bif p51 then
    some true
    else
    Option.bind (i_SameMachine (⟨(IntKind.i64.wrap (1 + x16.1)), 1⟩ : Sig) x24 x21.1) fun x56 =>
    some (!x56)) fun p58 =>
    bif p58 then
      some (false : Bool)
    else
      Option.bind (s_AlikeStates (⟨(IntKind.i64.wrap (1 + x16.1)), 1⟩ : Sig) x24) fun x61 =>
      Option.bind (s_FoundStates (⟨(IntKind.i64.wrap (1 + x16.1)), 1⟩ : Sig) x24) fun x64 =>
      Option.bind (cntM (l_FnLeastSame_b0 x61 x64) x61.length 0 ()) fun q2 =>
      aft (fun r => some r) (fun s3 =>
        some (true : Bool)) q2

end Go.Proofs.Ytfmkhnlnomkcfaa
