/- The functions on data. By program. -/
import Derived.Test.YtnmjfjppgpkieaaTypes
set_option linter.unusedVariables false
set_option linter.unusedSimpArgs false
namespace Go.Proofs.Ytnmjfjppgpkieaa
open Go Go.Wk Go.Proofs
set_option maxRecDepth 100000
set_option maxHeartbeats 1000000

/- loop.example/g00869/laws.szInt64S -/

def l_szInt64S (p0 : (List Int)) (p1 : Int) : Option (Int) :=
  bif decide ((IntKind.i64.wrap (p1 - (p0.length : Int))) < 0) then
    some ((-1) : Int)
  else
    some ((IntKind.i64.wrap (p1 - (p0.length : Int))) : Int)

/- loop.example/g00869/laws.szInt64SS -/
def l_szInt64SS_b0 (p0 : (List (List Int))) (v5 : Int) (s1 : Int) : Option (Int ⊕ ((Int) ⊕ (Int))) :=
  Option.bind (idx p0 v5) fun x20 =>
  Option.bind (l_szInt64S x20 s1) fun x23 =>
  bif decide (x23 < 0) then
    some (.inl ((-1) : Int))
  else
    some (.inr (.inr (x23 : Int)))
def l_szInt64SS (p0 : (List (List Int))) (p1 : Int) : Option (Int) :=
  bif decide ((IntKind.i64.wrap (p1 - (p0.length : Int))) < 0) then
    some ((-1) : Int)
  else
    Option.bind (cntM (l_szInt64SS_b0 p0) p0.length 0 ((IntKind.i64.wrap (p1 - (p0.length : Int))) : Int)) fun q2 =>
    aft (fun r => some r) (fun s3 =>
      some (s3 : Int)) q2

/- loop.example/g00869/laws.szArena -/

def l_szArena (p0 : Arena) (p1 : Int) : Option (Int) :=
  Option.bind (l_szInt64S p0.Owner p1) fun x8 =>
  bif decide (x8 < 0) then
    some ((-1) : Int)
  else
    Option.bind (l_szInt64SS p0.Next x8) fun x14 =>
    bif decide (x14 < 0) then
      some ((-1) : Int)
    else
      some (x14 : Int)

/- loop.example/g00869/laws.szParity -/

def l_szParity (p0 : Parity) (p1 : Int) : Option (Int) :=
  Option.bind (l_szArena p0.Arena p1) fun x8 =>
  bif decide (x8 < 0) then
    some ((-1) : Int)
  else
    Option.bind (l_szInt64S p0.Prio x8) fun x14 =>
    bif decide (x14 < 0) then
      some ((-1) : Int)
    else
      some (x14 : Int)

/- loop.example/g00869/laws.toInt64S -/
def l_toInt64S_b0 (p0 : (List Int)) (v4 : Int) (s1 : (List Int)) : Option ((List Int) ⊕ (((List Int)) ⊕ ((List Int)))) :=
  Option.bind (idx p0 v4) fun x18 =>
  Option.bind (idx s1 v4) fun x20 =>
  Option.bind (setI s1 v4 x18) fun y1 =>
  some (.inr (.inr (y1 : (List Int))))
def l_toInt64S (p0 : (List Int)) : Option ((List Int)) :=
  Option.bind (mkS 8 (p0.length : Int) (0 : Int)) fun x7 =>
  Option.bind (cntM (l_toInt64S_b0 p0) p0.length 0 (x7 : (List Int))) fun q2 =>
  aft (fun r => some r) (fun s3 =>
    some (s3 : (List Int))) q2

/- loop.example/g00869/laws.toInt64SS -/
def l_toInt64SS_b0 (p0 : (List (List Int))) (v4 : Int) (s1 : (List (List Int))) : Option ((List (List Int)) ⊕ (((List (List Int))) ⊕ ((List (List Int))))) :=
  Option.bind (idx p0 v4) fun x18 =>
  Option.bind (l_toInt64S x18) fun x20 =>
  Option.bind (idx s1 v4) fun x21 =>
  Option.bind (setI s1 v4 (x20 : (List Int))) fun y3 =>
  some (.inr (.inr (y3 : (List (List Int)))))
def l_toInt64SS (p0 : (List (List Int))) : Option ((List (List Int))) :=
  Option.bind (mkS 24 (p0.length : Int) (([] : List Int) : (List Int))) fun x7 =>
  Option.bind (cntM (l_toInt64SS_b0 p0) p0.length 0 (x7 : (List (List Int)))) fun q2 =>
  aft (fun r => some r) (fun s3 =>
    some (s3 : (List (List Int)))) q2

/- loop.example/g00869/laws.toArena -/

def l_toArena (p0 : Arena) : Option (Arena) :=
  Option.bind (l_toInt64S p0.Owner) fun x6 =>
  Option.bind (l_toInt64SS p0.Next) fun x10 =>
  some ((⟨x6, x10⟩ : Arena) : Arena)

/- loop.example/g00869/laws.toParity -/

def l_toParity (p0 : Parity) : Option (Parity) :=
  Option.bind (l_toArena p0.Arena) fun x6 =>
  Option.bind (l_toInt64S p0.Prio) fun x10 =>
  some ((⟨x6, x10⟩ : Parity) : Parity)

/- loop.example/g00869/laws.toEdit -/

def l_toEdit (p0 : Edit) : Option (Edit) :=
  some ((⟨p0.Kind, p0.V, p0.N⟩ : Edit) : Edit)

/- loop.example/g00869/spec.l1In -/

def s_l1In (p0 : Int) (p1 : Int) (p2 : Int) : Option (Bool) :=
  Option.bind (bif decide (p1 ≤ p0) then
  some (decide (p0 ≤ p2))
  else
  some false) fun p14 =>
  some (p14 : Bool)

/- loop.example/g00869/spec.l1Rises -/
def s_l1Rises_b0 (p0 : (List Int)) (p1 : Int) (v5 : Int) (s1 : Unit) : Option (Bool ⊕ ((Unit) ⊕ (Unit))) :=
  Option.bind (idx p0 v5) fun x14 =>
  Option.bind (s_l1In x14 0 (IntKind.i64.wrap (p1 - 1))) fun x18 =>
  Option.bind (bif (!x18) then
  some true
  else
  Option.bind (bif decide (0 < v5) then
  Option.bind (idx p0 v5) fun x26 =>
  Option.bind (idx p0 (IntKind.i64.wrap (v5 - 1))) fun x31 =>
  some (decide (x26 ≤ x31))
  else
  some false) fun p34 =>
  some p34) fun p35 =>
  bif p35 then
    some (.inl (false : Bool))
  else
    some (.inr (.inr ()))
def s_l1Rises (p0 : (List Int)) (p1 : Int) : Option (Bool) :=
  Option.bind (cntM (s_l1Rises_b0 p0 p1) p0.length 0 ()) fun q2 =>
  aft (fun r => some r) (fun s3 =>
    some (true : Bool)) q2

/- loop.example/g00869/spec.l1Set -/

def s_l1Set (p0 : (List Int)) (p1 : Int) : Option (Bool) :=
  Option.bind (bif decide ((p0.length : Int) ≤ p1) then
  Option.bind (s_l1Rises p0 p1) fun x12 =>
  some x12
  else
  some false) fun p13 =>
  some (p13 : Bool)

/- loop.example/g00869/spec.ArenaOk -/
def s_ArenaOk_b0 (p0 : Arena) (v4 : Int) (s1 : Unit) : Option (Bool ⊕ ((Unit) ⊕ (Unit))) :=
  Option.bind (idx p0.Owner v4) fun x30 =>
  Option.bind (s_l1In x30 0 1) fun x32 =>
  Option.bind (bif (!x32) then
  some true
  else
  Option.bind (idx p0.Next v4) fun x38 =>
  some (decide ((x38.length : Int) < 1))) fun p42 =>
  Option.bind (bif p42 then
  some true
  else
  Option.bind (idx p0.Next v4) fun x47 =>
  some (decide (16 < (x47.length : Int)))) fun p51 =>
  Option.bind (bif p51 then
  some true
  else
  Option.bind (idx p0.Next v4) fun x56 =>
  Option.bind (s_l1Set x56 (p0.Owner.length : Int)) fun x59 =>
  some (!x59)) fun p61 =>
  bif p61 then
    some (.inl (false : Bool))
  else
    some (.inr (.inr ()))
def s_ArenaOk (p0 : Arena) : Option (Bool) :=
  Option.bind (s_l1In (p0.Owner.length : Int) 1 256) fun x9 =>
  Option.bind (bif (!x9) then
  some true
  else
  some ((p0.Next.length : Int) != (p0.Owner.length : Int))) fun p19 =>
  bif p19 then
    some (false : Bool)
  else
    Option.bind (cntM (s_ArenaOk_b0 p0) p0.Owner.length 0 ()) fun q2 =>
    aft (fun r => some r) (fun s3 =>
      some (true : Bool)) q2

/- loop.example/g00869/spec.ParityOk -/
def s_ParityOk_b0 (p0 : Parity) (v3 : Int) (s1 : Unit) : Option (Bool ⊕ ((Unit) ⊕ (Unit))) :=
  Option.bind (idx p0.Prio v3) fun x28 =>
  Option.bind (s_l1In x28 0 40) fun x30 =>
  bif (!x30) then
    some (.inl (false : Bool))
  else
    some (.inr (.inr ()))
def s_ParityOk (p0 : Parity) : Option (Bool) :=
  Option.bind (s_ArenaOk p0.Arena) fun x6 =>
  Option.bind (bif (!x6) then
  some true
  else
  some ((p0.Prio.length : Int) != (p0.Arena.Owner.length : Int))) fun p17 =>
  bif p17 then
    some (false : Bool)
  else
    Option.bind (cntM (s_ParityOk_b0 p0) p0.Prio.length 0 ()) fun q2 =>
    aft (fun r => some r) (fun s3 =>
      some (true : Bool)) q2

/- loop.example/g00869/spec.l16Has -/
def s_l16Has_b0 (p0 : (List Int)) (p1 : Int) (v5 : Int) (s1 : Unit) : Option (Bool ⊕ ((Unit) ⊕ (Unit))) :=
  Option.bind (idx p0 v5) fun x14 =>
  bif (x14 == p1) then
    some (.inl (true : Bool))
  else
    some (.inr (.inr ()))
def s_l16Has (p0 : (List Int)) (p1 : Int) : Option (Bool) :=
  Option.bind (cntM (s_l16Has_b0 p0 p1) p0.length 0 ()) fun q2 =>
  aft (fun r => some r) (fun s3 =>
    some (false : Bool)) q2

/- loop.example/g00869/spec.EditOk -/

def s_EditOk (p0 : Parity) (p1 : Edit) : Option (Bool) :=
  Option.bind (s_ParityOk p0) fun x11 =>
  Option.bind (bif (!x11) then
  some true
  else
  Option.bind (s_l1In p1.V 0 (IntKind.i64.wrap ((p0.Prio.length : Int) - 1))) fun x18 =>
  some (!x18)) fun p20 =>
  bif p20 then
    some (false : Bool)
  else
    Option.bind (idx p0.Arena.Next p1.V) fun x26 =>
    bif (p1.Kind == 1) then
      Option.bind (s_l1In p1.N 0 40) fun x34 =>
      some (x34 : Bool)
    else
      bif (p1.Kind == 2) then
        Option.bind (s_l1In p1.N 0 1) fun x39 =>
        some (x39 : Bool)
      else
        bif (p1.Kind == 3) then
          Option.bind (s_l1In p1.N 0 (IntKind.i64.wrap ((p0.Prio.length : Int) - 1))) fun x46 =>
          Option.bind (bif x46 then
          Option.bind (s_l16Has x26 p1.N) fun x51 =>
          some (!x51)
          else
          some false) fun p53 =>
          Option.bind (bif p53 then
          some (decide ((x26.length : Int) < 16))
          else
          some false) fun p58 =>
          some (p58 : Bool)
        else
          bif (p1.Kind == 4) then
            Option.bind (s_l16Has x26 p1.N) fun x64 =>
            Option.bind (bif x64 then
            some (decide (1 < (x26.length : Int)))
            else
            some false) fun p69 =>
            some (p69 : Bool)
          else
            some (false : Bool)

/- loop.example/g00869/spec.l1Copy -/

def s_l1Copy (p0 : (List Int)) : Option ((List Int)) :=
  Option.bind (appS 8 ([] : List Int) p0) fun x5 =>
  some (x5 : (List Int))

/- loop.example/g00869/spec.l1Into -/
def s_l1Into_b0 (p0 : (List Int)) (p1 : Int) (s1 : Int) : Option ((List Int) ⊕ ((Int) ⊕ (Int))) :=
  Option.bind (bif decide (s1 < (p0.length : Int)) then
  Option.bind (idx p0 s1) fun x14 =>
  some (decide (x14 < p1))
  else
  some false) fun p18 =>
  bif p18 then
    some (.inr (.inr ((IntKind.i64.wrap (s1 + 1)) : Int)))
  else
    some (.inr (.inl (s1 : Int)))
def s_l1Into (p0 : (List Int)) (p1 : Int) : Option ((List Int)) :=
  Option.bind (whileM (s_l1Into_b0 p0 p1) (2 ^ 64) (0 : Int)) fun q2 =>
  aft (fun r => some r) (fun s3 =>
    Option.bind (bif decide (s3 < (p0.length : Int)) then
    Option.bind (idx p0 s3) fun x28 =>
    some (x28 == p1)
    else
    some false) fun p32 =>
    bif p32 then
      some (p0 : (List Int))
    else
      Option.bind (subS p0 0 s3) fun x36 =>
      Option.bind (s_l1Copy x36) fun x37 =>
      Option.bind (appS 8 x37 ([p1] : List Int)) fun x40 =>
      Option.bind (subS p0 s3 (p0.length : Int)) fun x44 =>
      Option.bind (appS 8 x40 x44) fun x45 =>
      some (x45 : (List Int))) q2

/- loop.example/g00869/spec.l1CopyArena -/
def s_l1CopyArena_b0 (p0 : Arena) (v4 : Int) (s1 : (List (List Int))) : Option (Arena ⊕ (((List (List Int))) ⊕ ((List (List Int))))) :=
  Option.bind (idx p0.Next v4) fun x21 =>
  Option.bind (s_l1Copy x21) fun x23 =>
  Option.bind (appS 24 s1 ([x23] : List (List Int))) fun x25 =>
  some (.inr (.inr (x25 : (List (List Int)))))
def s_l1CopyArena (p0 : Arena) : Option (Arena) :=
  Option.bind (s_l1Copy p0.Owner) fun x7 =>
  Option.bind (cntM (s_l1CopyArena_b0 p0) p0.Next.length 0 (([] : List (List Int)) : (List (List Int)))) fun q2 =>
  aft (fun r => some r) (fun s3 =>
    some ((⟨x7, s3⟩ : Arena) : Arena)) q2

/- loop.example/g00869/spec.l4Copy -/

def s_l4Copy (p0 : Parity) : Option (Parity) :=
  Option.bind (s_l1CopyArena p0.Arena) fun x5 =>
  Option.bind (s_l1Copy p0.Prio) fun x8 =>
  some ((⟨x5, x8⟩ : Parity) : Parity)

/- loop.example/g00869/spec.l32Do -/
def s_l32Do_b1 (p0 : Parity) (p1 : Edit) (s5 : (List Int) × Int) : Option (Parity ⊕ (((List Int) × Int) ⊕ ((List Int) × Int))) :=
  Option.bind (idx p0.Arena.Next p1.V) fun x58 =>
  bif decide (s5.2 < (x58.length : Int)) then
    Option.bind (idx p0.Arena.Next p1.V) fun x69 =>
    Option.bind (idx x69 s5.2) fun x72 =>
    Option.bind (bif (x72 != p1.N) then
      Option.bind (idx p0.Arena.Next p1.V) fun x83 =>
      Option.bind (idx x83 s5.2) fun x86 =>
      Option.bind (appS 8 s5.1 ([x86] : List Int)) fun x89 =>
      some (x89 : (List Int))
    else
      some (s5.1 : (List Int))) fun q8 =>
    some (.inr (.inr ((q8 : (List Int)), ((IntKind.i64.wrap (s5.2 + 1)) : Int))))
  else
    some (.inr (.inl ((s5.1 : (List Int)), (s5.2 : Int))))
def s_l32Do (p0 : Parity) (p1 : Edit) : Option (Parity) :=
  Option.bind (s_l4Copy p0) fun x9 =>
  Option.bind (bif (p1.Kind == 1) then
    Option.bind (idx x9.Prio p1.V) fun x20 =>
    Option.bind (setI x9.Prio p1.V p1.N) fun y6 =>
    some ((x9.Arena.Owner : (List Int)), (x9.Arena.Next : (List (List Int))), (y6 : (List Int)))
  else
    Option.bind (bif (p1.Kind == 2) then
      Option.bind (idx x9.Arena.Owner p1.V) fun x30 =>
      Option.bind (setI x9.Arena.Owner p1.V p1.N) fun y7 =>
      some ((y7 : (List Int)), (x9.Arena.Next : (List (List Int))))
    else
      Option.bind (bif (p1.Kind == 3) then
        Option.bind (idx x9.Arena.Next p1.V) fun x43 =>
        Option.bind (s_l1Into x43 p1.N) fun x47 =>
        Option.bind (idx x9.Arena.Next p1.V) fun x48 =>
        Option.bind (setI x9.Arena.Next p1.V (x47 : (List Int))) fun y9 =>
        some (y9 : (List (List Int)))
      else
        Option.bind (bif (p1.Kind == 4) then
          Option.bind (whileM (s_l32Do_b1 p0 p1) (2 ^ 64) ((([] : List Int) : (List Int)), (0 : Int))) fun q6 =>
          aft (fun r => none) (fun s7 =>
            Option.bind (idx x9.Arena.Next p1.V) fun x96 =>
            Option.bind (setI x9.Arena.Next p1.V (s7.1 : (List Int))) fun y12 =>
            some (y12 : (List (List Int)))) q6
        else
          some (x9.Arena.Next : (List (List Int)))) fun q4 =>
        some (q4 : (List (List Int)))) fun q3 =>
      some ((x9.Arena.Owner : (List Int)), (q3 : (List (List Int))))) fun q2 =>
    some ((q2.1 : (List Int)), (q2.2 : (List (List Int))), (x9.Prio : (List Int)))) fun q1 =>
  some ((⟨(⟨q1.1, q1.2.1⟩ : Arena), q1.2.2⟩ : Parity) : Parity)

/- loop.example/g00869/spec.Edited -/

def s_Edited (p0 : Parity) (p1 : Edit) : Option (Parity × Bool) :=
  Option.bind (s_EditOk p0 p1) fun x8 =>
  bif (!x8) then
    some (((⟨(⟨([] : List Int), ([] : List (List Int))⟩ : Arena), ([] : List Int)⟩ : Parity) : Parity), (false : Bool))
  else
    Option.bind (s_l32Do p0 p1) fun x13 =>
    some ((x13 : Parity), (true : Bool))

/- loop.example/g00869/impl.isSet -/
def i_isSet_b0 (p0 : (List Int)) (p1 : Int) (v9 : Int) (s1 : Unit) : Option (Bool ⊕ ((Unit) ⊕ (Unit))) :=
  Option.bind (idx p0 v9) fun x12 =>
  Option.bind (bif decide (x12 < 0) then
  some true
  else
  some (decide (p1 ≤ x12))) fun p20 =>
  Option.bind (bif p20 then
  some true
  else
  Option.bind (bif decide (0 < v9) then
  Option.bind (idx p0 (IntKind.i64.wrap (v9 - 1))) fun x29 =>
  some (decide (x12 ≤ x29))
  else
  some false) fun p32 =>
  some p32) fun p33 =>
  bif p33 then
    some (.inl (false : Bool))
  else
    some (.inr (.inr ()))
def i_isSet (p0 : (List Int)) (p1 : Int) : Option (Bool) :=
  Option.bind (cntM (i_isSet_b0 p0 p1) p0.length 0 ()) fun q2 =>
  aft (fun r => some r) (fun s3 =>
    some (true : Bool)) q2

/- loop.example/g00869/impl.ArenaOk -/
def i_ArenaOk_b0 (p0 : Arena) (v25 : Int) (s1 : Unit) : Option (Bool ⊕ ((Unit) ⊕ (Unit))) :=
  Option.bind (idx p0.Next v25) fun x28 =>
  Option.bind (idx p0.Owner v25) fun x33 =>
  Option.bind (bif decide (x33 < 0) then
  some true
  else
  Option.bind (idx p0.Owner v25) fun x40 =>
  some (decide (1 < x40))) fun p43 =>
  Option.bind (bif p43 then
  some true
  else
  some (decide ((x28.length : Int) < 1))) fun p48 =>
  Option.bind (bif p48 then
  some true
  else
  some (decide (16 < (x28.length : Int)))) fun p53 =>
  Option.bind (bif p53 then
  some true
  else
  Option.bind (i_isSet x28 (p0.Owner.length : Int)) fun x57 =>
  some (!x57)) fun p59 =>
  bif p59 then
    some (.inl (false : Bool))
  else
    some (.inr (.inr ()))
def i_ArenaOk (p0 : Arena) : Option (Bool) :=
  Option.bind (bif decide ((p0.Owner.length : Int) < 1) then
  some true
  else
  some (decide (256 < (p0.Owner.length : Int)))) fun p14 =>
  Option.bind (bif p14 then
  some true
  else
  some ((p0.Next.length : Int) != (p0.Owner.length : Int))) fun p21 =>
  bif p21 then
    some (false : Bool)
  else
    Option.bind (cntM (i_ArenaOk_b0 p0) p0.Next.length 0 ()) fun q2 =>
    aft (fun r => some r) (fun s3 =>
      some (true : Bool)) q2

/- loop.example/g00869/impl.ParityOk -/
def i_ParityOk_b0 (p0 : Parity) (v22 : Int) (s1 : Unit) : Option (Bool ⊕ ((Unit) ⊕ (Unit))) :=
  Option.bind (idx p0.Prio v22) fun x24 =>
  Option.bind (bif decide (x24 < 0) then
  some true
  else
  some (decide (40 < x24))) fun p31 =>
  bif p31 then
    some (.inl (false : Bool))
  else
    some (.inr (.inr ()))
def i_ParityOk (p0 : Parity) : Option (Bool) :=
  Option.bind (i_ArenaOk p0.Arena) fun x7 =>
  Option.bind (bif (!x7) then
  some true
  else
  some ((p0.Prio.length : Int) != (p0.Arena.Owner.length : Int))) fun p18 =>
  bif p18 then
    some (false : Bool)
  else
    Option.bind (cntM (i_ParityOk_b0 p0) p0.Prio.length 0 ()) fun q2 =>
    aft (fun r => some r) (fun s3 =>
      some (true : Bool)) q2

/- loop.example/g00869/impl.size -/

def i_size (p0 : Arena) : Option (Int) :=
  some ((p0.Owner.length : Int) : Int)

/- loop.example/g00869/impl.hasVertex -/

def i_hasVertex (p0 : Arena) (p1 : Int) : Option (Bool) :=
  Option.bind (bif decide (0 ≤ p1) then
  Option.bind (i_size p0) fun x10 =>
  some (decide (p1 < x10))
  else
  some false) fun p12 =>
  some (p12 : Bool)

/- loop.example/g00869/impl.isPlayer -/

def i_isPlayer (p0 : Int) : Option (Bool) :=
  Option.bind (bif (p0 == 0) then
  some true
  else
  some (p0 == 1)) fun p8 =>
  some (p8 : Bool)

/- slices.Index[[]int64,int64] -/
def slices_Index_I_int64_b0 (p0 : (List Int)) (p1 : Int) (v8 : Int) (s1 : Unit) : Option (Int ⊕ ((Unit) ⊕ (Unit))) :=
  Option.bind (idx p0 v8) fun x14 =>
  bif (p1 == x14) then
    some (.inl (v8 : Int))
  else
    some (.inr (.inr ()))
def slices_Index_I_int64 (p0 : (List Int)) (p1 : Int) : Option (Int) :=
  Option.bind (cntM (slices_Index_I_int64_b0 p0 p1) p0.length 0 ()) fun q2 =>
  aft (fun r => some r) (fun s3 =>
    some ((-1) : Int)) q2

/- slices.Contains[[]int64,int64] -/

def slices_Contains_I_int64 (p0 : (List Int)) (p1 : Int) : Option (Bool) :=
  Option.bind (slices_Index_I_int64 p0 p1) fun x7 =>
  some (decide (0 ≤ x7) : Bool)

/- loop.example/g00869/impl.isEdit -/

def i_isEdit (p0 : Parity) (p1 : Edit) : Option (Bool) :=
  Option.bind (i_hasVertex p0.Arena p1.V) fun x10 =>
  bif (!x10) then
    some (false : Bool)
  else
    Option.bind (idx p0.Arena.Next p1.V) fun x17 =>
    bif (p1.Kind == 1) then
      Option.bind (bif decide (0 ≤ p1.N) then
      some (decide (p1.N ≤ 40))
      else
      some false) fun p30 =>
      some (p30 : Bool)
    else
      bif (p1.Kind == 2) then
        Option.bind (i_isPlayer p1.N) fun x35 =>
        some (x35 : Bool)
      else
        bif (p1.Kind == 3) then
          Option.bind (i_hasVertex p0.Arena p1.N) fun x42 =>
          Option.bind (bif x42 then
          Option.bind (slices_Contains_I_int64 x17 p1.N) fun x47 =>
          some (!x47)
          else
          some false) fun p49 =>
          Option.bind (bif p49 then
          some (decide ((x17.length : Int) < 16))
          else
          some false) fun p54 =>
          some (p54 : Bool)
        else
          bif (p1.Kind == 4) then
            Option.bind (slices_Contains_I_int64 x17 p1.N) fun x60 =>
            Option.bind (bif x60 then
            some (decide (1 < (x17.length : Int)))
            else
            some false) fun p65 =>
            some (p65 : Bool)
          else
            some (false : Bool)

/- loop.example/g00869/impl.copyLists -/
def i_copyLists_b0 (p0 : (List (List Int))) (v9 : Int) (s1 : (List (List Int))) : Option ((List (List Int)) ⊕ (((List (List Int))) ⊕ ((List (List Int))))) :=
  Option.bind (idx p0 v9) fun x11 =>
  Option.bind (appS 8 ([] : List Int) x11) fun x16 =>
  Option.bind (appS 24 s1 ([x16] : List (List Int))) fun x18 =>
  some (.inr (.inr (x18 : (List (List Int)))))
def i_copyLists (p0 : (List (List Int))) : Option ((List (List Int))) :=
  Option.bind (cntM (i_copyLists_b0 p0) p0.length 0 (([] : List (List Int)) : (List (List Int)))) fun q2 =>
  aft (fun r => some r) (fun s3 =>
    some (s3 : (List (List Int)))) q2

/- loop.example/g00869/impl.copyArena -/

def i_copyArena (p0 : Arena) : Option (Arena) :=
  Option.bind (appS 8 ([] : List Int) p0.Owner) fun x6 =>
  Option.bind (i_copyLists p0.Next) fun x9 =>
  some ((⟨x6, x9⟩ : Arena) : Arena)

/- loop.example/g00869/impl.copyParity -/

def i_copyParity (p0 : Parity) : Option (Parity) :=
  Option.bind (i_copyArena p0.Arena) fun x5 =>
  Option.bind (appS 8 ([] : List Int) p0.Prio) fun x9 =>
  some ((⟨(⟨x5.Owner, x5.Next⟩ : Arena), x9⟩ : Parity) : Parity)

/- cmp.isNaN[int64] -/

def cmp_isNaN_int64 (p0 : Int) : Option (Bool) :=
  some ((p0 != p0) : Bool)

/- cmp.Less[int64] -/

def cmp_Less_int64 (p0 : Int) (p1 : Int) : Option (Bool) :=
  Option.bind (cmp_isNaN_int64 p0) fun x6 =>
  Option.bind (bif x6 then
  Option.bind (cmp_isNaN_int64 p1) fun x9 =>
  some (!x9)
  else
  some false) fun p11 =>
  Option.bind (bif p11 then
  some true
  else
  some (decide (p0 < p1))) fun p16 =>
  some (p16 : Bool)

/- slices.isNaN[int64] -/

def slices_isNaN_int64 (p0 : Int) : Option (Bool) :=
  some ((p0 != p0) : Bool)

/- slices.BinarySearch[[]int64,int64] -/
def slices_BinarySearch_I_int64_b0 (p0 : (List Int)) (p1 : Int) (s1 : Int × Int) : Option ((Int × Bool) ⊕ ((Int × Int) ⊕ (Int × Int))) :=
  bif decide (s1.1 < s1.2) then
    Option.bind (idx p0 (IntKind.i64.wrap (Int.fdiv (IntKind.u64.wrap (IntKind.i64.wrap (s1.1 + s1.2))) (2 ^ (min (Int.toNat 1) (IntKind.bits IntKind.u64)))))) fun x24 =>
    Option.bind (cmp_Less_int64 x24 p1) fun x27 =>
    Option.bind (bif x27 then
      some (((IntKind.i64.wrap ((IntKind.i64.wrap (Int.fdiv (IntKind.u64.wrap (IntKind.i64.wrap (s1.1 + s1.2))) (2 ^ (min (Int.toNat 1) (IntKind.bits IntKind.u64))))) + 1)) : Int), (s1.2 : Int))
    else
      some ((s1.1 : Int), ((IntKind.i64.wrap (Int.fdiv (IntKind.u64.wrap (IntKind.i64.wrap (s1.1 + s1.2))) (2 ^ (min (Int.toNat 1) (IntKind.bits IntKind.u64))))) : Int))) fun q4 =>
    some (.inr (.inr ((q4.1 : Int), (q4.2 : Int))))
  else
    some (.inr (.inl ((s1.1 : Int), (s1.2 : Int))))
def slices_BinarySearch_I_int64 (p0 : (List Int)) (p1 : Int) : Option (Int × Bool) :=
  Option.bind (whileM (slices_BinarySearch_I_int64_b0 p0 p1) (2 ^ 64) ((0 : Int), ((p0.length : Int) : Int))) fun q2 =>
  aft (fun r => some r) (fun s3 =>
    Option.bind (bif decide (s3.1 < (p0.length : Int)) then
    Option.bind (idx p0 s3.1) fun x38 =>
    Option.bind (bif (x38 == p1) then
    some true
    else
    Option.bind (idx p0 s3.1) fun x45 =>
    Option.bind (slices_isNaN_int64 x45) fun x47 =>
    Option.bind (bif x47 then
    Option.bind (slices_isNaN_int64 p1) fun x50 =>
    some x50
    else
    some false) fun p51 =>
    some p51) fun p52 =>
    some p52
    else
    some false) fun p53 =>
    some ((s3.1 : Int), (p53 : Bool))) q2

/- loop.example/g00869/impl.lessOf -/
def i_lessOf_b0 (p0 : (List Int)) (p1 : (List Int)) (v13 : Int) (s1 : (List Int)) : Option ((List Int) ⊕ (((List Int)) ⊕ ((List Int)))) :=
  Option.bind (idx p0 v13) fun x15 =>
  Option.bind (slices_BinarySearch_I_int64 p1 x15) fun x20 =>
  Option.bind (bif (!x20.2) then
    Option.bind (appS 8 s1 ([x15] : List Int)) fun x28 =>
    some (x28 : (List Int))
  else
    some (s1 : (List Int))) fun q4 =>
  some (.inr (.inr (q4 : (List Int))))
def i_lessOf (p0 : (List Int)) (p1 : (List Int)) : Option ((List Int)) :=
  Option.bind (cntM (i_lessOf_b0 p0 p1) p0.length 0 (([] : List Int) : (List Int))) fun q2 =>
  aft (fun r => some r) (fun s3 =>
    some (s3 : (List Int))) q2

/- slices.Sort[[]int64,int64] -/
def slices_Sort_I_int64 (p0 : (List Int)) : Option (List Int) :=
  if 0 < p0.length ∧ p0.length < 4611686018427387904 then some (p0.mergeSort fun x y => decide (x ≤ y)) else none


/- loop.example/g00869/impl.bothOf -/

def i_bothOf (p0 : (List Int)) (p1 : (List Int)) : Option ((List Int)) :=
  Option.bind (appS 8 ([] : List Int) p0) fun x8 =>
  Option.bind (i_lessOf p1 p0) fun x11 =>
  Option.bind (appS 8 x8 x11) fun x12 =>
  Option.bind (slices_Sort_I_int64 x12) fun x14 =>
  some (x14 : (List Int))

/- loop.example/g00869/impl.edited -/

def i_edited (p0 : Parity) (p1 : Edit) : Option (Parity) :=
  Option.bind (i_copyParity p0) fun x7 =>
  Option.bind (bif (p1.Kind == 1) then
    Option.bind (idx x7.Prio p1.V) fun x35 =>
    Option.bind (setI x7.Prio p1.V p1.N) fun y18 =>
    some ((x7.Arena.Owner : (List Int)), (x7.Arena.Next : (List (List Int))), (y18 : (List Int)))
  else
    Option.bind (bif (p1.Kind == 2) then
      Option.bind (idx x7.Arena.Owner p1.V) fun x45 =>
      Option.bind (setI x7.Arena.Owner p1.V p1.N) fun y19 =>
      some ((y19 : (List Int)), (x7.Arena.Next : (List (List Int))))
    else
      Option.bind (bif (p1.Kind == 3) then
        Option.bind (idx x7.Arena.Next p1.V) fun x58 =>
        Option.bind (i_bothOf x58 ([p1.N] : List Int)) fun x63 =>
        Option.bind (idx x7.Arena.Next p1.V) fun x64 =>
        Option.bind (setI x7.Arena.Next p1.V (x63 : (List Int))) fun y24 =>
        some (y24 : (List (List Int)))
      else
        Option.bind (idx x7.Arena.Next p1.V) fun x20 =>
        Option.bind (i_lessOf x20 ([p1.N] : List Int)) fun x25 =>
        Option.bind (idx x7.Arena.Next p1.V) fun x26 =>
        Option.bind (setI x7.Arena.Next p1.V (x25 : (List Int))) fun y26 =>
        some (y26 : (List (List Int)))) fun q3 =>
      some ((x7.Arena.Owner : (List Int)), (q3 : (List (List Int))))) fun q2 =>
    some ((q2.1 : (List Int)), (q2.2 : (List (List Int))), (x7.Prio : (List Int)))) fun q1 =>
  some ((⟨(⟨q1.1, q1.2.1⟩ : Arena), q1.2.2⟩ : Parity) : Parity)

/- loop.example/g00869/impl.Edited -/

def i_Edited (p0 : Parity) (p1 : Edit) : Option (Parity × Bool) :=
  Option.bind (i_ParityOk p0) fun x7 =>
  Option.bind (bif (!x7) then
  some true
  else
  Option.bind (i_isEdit p0 p1) fun x12 =>
  some (!x12)) fun p14 =>
  bif p14 then
    some (((⟨(⟨([] : List Int), ([] : List (List Int))⟩ : Arena), ([] : List Int)⟩ : Parity) : Parity), (false : Bool))
  else
    Option.bind (i_edited p0 p1) fun x18 =>
    some ((x18 : Parity), (true : Bool))

/- loop.example/g00869/laws.eqInt64S -/
def l_eqInt64S_b0 (p0 : (List Int)) (p1 : (List Int)) (v5 : Int) (s1 : Unit) : Option (Bool ⊕ ((Unit) ⊕ (Unit))) :=
  Option.bind (idx p0 v5) fun x19 =>
  Option.bind (idx p1 v5) fun x23 =>
  bif (x19 != x23) then
    some (.inl (false : Bool))
  else
    some (.inr (.inr ()))
def l_eqInt64S (p0 : (List Int)) (p1 : (List Int)) : Option (Bool) :=
  bif ((p0.length : Int) != (p1.length : Int)) then
    some (false : Bool)
  else
    Option.bind (cntM (l_eqInt64S_b0 p0 p1) p0.length 0 ()) fun q2 =>
    aft (fun r => some r) (fun s3 =>
      some (true : Bool)) q2

/- loop.example/g00869/laws.eqInt64SS -/
def l_eqInt64SS_b0 (p0 : (List (List Int))) (p1 : (List (List Int))) (v5 : Int) (s1 : Unit) : Option (Bool ⊕ ((Unit) ⊕ (Unit))) :=
  Option.bind (idx p0 v5) fun x19 =>
  Option.bind (idx p1 v5) fun x23 =>
  Option.bind (l_eqInt64S x19 x23) fun x25 =>
  bif (!x25) then
    some (.inl (false : Bool))
  else
    some (.inr (.inr ()))
def l_eqInt64SS (p0 : (List (List Int))) (p1 : (List (List Int))) : Option (Bool) :=
  bif ((p0.length : Int) != (p1.length : Int)) then
    some (false : Bool)
  else
    Option.bind (cntM (l_eqInt64SS_b0 p0 p1) p0.length 0 ()) fun q2 =>
    aft (fun r => some r) (fun s3 =>
      some (true : Bool)) q2

/- loop.example/g00869/laws.eqArena -/

def l_eqArena (p0 : Arena) (p1 : Arena) : Option (Bool) :=
  Option.bind (l_eqInt64S p0.Owner p1.Owner) fun x9 =>
  bif (!x9) then
    some (false : Bool)
  else
    Option.bind (l_eqInt64SS p0.Next p1.Next) fun x15 =>
    bif (!x15) then
      some (false : Bool)
    else
      some (true : Bool)

/- loop.example/g00869/laws.eqParity -/

def l_eqParity (p0 : Parity) (p1 : Parity) : Option (Bool) :=
  Option.bind (l_eqArena p0.Arena p1.Arena) fun x9 =>
  bif (!x9) then
    some (false : Bool)
  else
    Option.bind (l_eqInt64S p0.Prio p1.Prio) fun x15 =>
    bif (!x15) then
      some (false : Bool)
    else
      some (true : Bool)

/- loop.example/g00869/laws.markInt64S -/
def l_markInt64S_b0  (v5 : Int) (s1 : Int × (List Int)) : Option ((Int × (List Int)) ⊕ ((Int × (List Int)) ⊕ (Int × (List Int)))) :=
  Option.bind (idx s1.2 v5) fun x15 =>
  Option.bind (setI s1.2 v5 s1.1) fun y27 =>
  some (.inr (.inr (((IntKind.i64.wrap (s1.1 + 1)) : Int), (y27 : (List Int)))))
def l_markInt64S (p0 : (List Int)) (p1 : Int) : Option (Int × (List Int)) :=
  Option.bind (cntM l_markInt64S_b0 p0.length 0 ((p1 : Int), (p0 : (List Int)))) fun q2 =>
  aft (fun r => some r) (fun s3 =>
    some ((s3.1 : Int), (s3.2 : (List Int)))) q2

/- loop.example/g00869/laws.markInt64SS -/
def l_markInt64SS_b0  (v5 : Int) (s1 : Int × (List (List Int))) : Option ((Int × (List (List Int))) ⊕ ((Int × (List (List Int))) ⊕ (Int × (List (List Int))))) :=
  Option.bind (idx s1.2 v5) fun x14 =>
  Option.bind (l_markInt64S x14 s1.1) fun x17 =>
  Option.bind (setI s1.2 v5 x17.2) fun yb28 =>
  some (.inr (.inr ((x17.1 : Int), (yb28 : (List (List Int))))))
def l_markInt64SS (p0 : (List (List Int))) (p1 : Int) : Option (Int × (List (List Int))) :=
  Option.bind (cntM l_markInt64SS_b0 p0.length 0 ((p1 : Int), (p0 : (List (List Int))))) fun q2 =>
  aft (fun r => some r) (fun s3 =>
    some ((s3.1 : Int), (s3.2 : (List (List Int))))) q2

/- loop.example/g00869/laws.markArena -/

def l_markArena (p0 : Arena) (p1 : Int) : Option (Int × (List Int) × (List (List Int))) :=
  Option.bind (l_markInt64S p0.Owner p1) fun x8 =>
  Option.bind (l_markInt64SS p0.Next x8.1) fun x12 =>
  some ((x12.1 : Int), (x8.2 : (List Int)), (x12.2 : (List (List Int))))

/- loop.example/g00869/laws.markParity -/

def l_markParity (p0 : Parity) (p1 : Int) : Option (Int × (List Int) × (List (List Int)) × (List Int)) :=
  Option.bind (l_markArena p0.Arena p1) fun x8 =>
  Option.bind (l_markInt64S p0.Prio x8.1) fun x12 =>
  some ((x12.1 : Int), (x8.2.1 : (List Int)), (x8.2.2 : (List (List Int))), (x12.2 : (List Int)))

/- loop.example/g00869/laws.heldInt64S -/
def l_heldInt64S_b0 (p0 : (List Int)) (v5 : Int) (s1 : Int) : Option (Int ⊕ ((Int) ⊕ (Int))) :=
  Option.bind (idx p0 v5) fun x14 =>
  bif (x14 != s1) then
    some (.inl ((-1) : Int))
  else
    some (.inr (.inr ((IntKind.i64.wrap (s1 + 1)) : Int)))
def l_heldInt64S (p0 : (List Int)) (p1 : Int) : Option (Int) :=
  Option.bind (cntM (l_heldInt64S_b0 p0) p0.length 0 (p1 : Int)) fun q2 =>
  aft (fun r => some r) (fun s3 =>
    some (s3 : Int)) q2

/- loop.example/g00869/laws.heldInt64SS -/
def l_heldInt64SS_b0 (p0 : (List (List Int))) (v5 : Int) (s1 : Int) : Option (Int ⊕ ((Int) ⊕ (Int))) :=
  Option.bind (idx p0 v5) fun x14 =>
  Option.bind (l_heldInt64S x14 s1) fun x17 =>
  bif decide (x17 < 0) then
    some (.inl ((-1) : Int))
  else
    some (.inr (.inr (x17 : Int)))
def l_heldInt64SS (p0 : (List (List Int))) (p1 : Int) : Option (Int) :=
  Option.bind (cntM (l_heldInt64SS_b0 p0) p0.length 0 (p1 : Int)) fun q2 =>
  aft (fun r => some r) (fun s3 =>
    some (s3 : Int)) q2

/- loop.example/g00869/laws.heldArena -/

def l_heldArena (p0 : Arena) (p1 : Int) : Option (Int) :=
  Option.bind (l_heldInt64S p0.Owner p1) fun x8 =>
  bif decide (x8 < 0) then
    some ((-1) : Int)
  else
    Option.bind (l_heldInt64SS p0.Next x8) fun x14 =>
    bif decide (x14 < 0) then
      some ((-1) : Int)
    else
      some (x14 : Int)

/- loop.example/g00869/laws.heldParity -/

def l_heldParity (p0 : Parity) (p1 : Int) : Option (Int) :=
  Option.bind (l_heldArena p0.Arena p1) fun x8 =>
  bif decide (x8 < 0) then
    some ((-1) : Int)
  else
    Option.bind (l_heldInt64S p0.Prio x8) fun x14 =>
    bif decide (x14 < 0) then
      some ((-1) : Int)
    else
      some (x14 : Int)

/- loop.example/g00869/laws.FnExactEdited -/

def l_FnExactEdited (p0 : Parity) (p1 : Edit) : Option (Bool) :=
  Option.bind (l_szParity p0 1048576) fun x18 =>
  bif decide (x18 < 0) then
    some (true : Bool)
  else
    Option.bind (l_toParity p0) fun x23 =>
    Option.bind (l_toEdit p1) fun x25 =>
    Option.bind (s_Edited x23 x25) fun x26 =>
    Option.bind (l_toParity p0) fun x30 =>
    Option.bind (l_toEdit p1) fun x34 =>
    Option.bind (i_Edited x30 x34) fun x35 =>
    Option.bind (l_eqParity x35.1 x26.1) fun x40 =>
    Option.bind (bif (!x40) then
    some true
    else
    some (x35.2 != x26.2)) fun p46 =>
    bif p46 then
      some (false : Bool)
    else
      Option.bind (l_toParity p0) fun x49 =>
      Option.bind (l_eqParity x30 x49) fun x50 =>
      bif (!x50) then
        some (false : Bool)
      else
        Option.bind (l_markParity x30 1) fun x54 =>
        Option.bind (bif decide (x54.1 < 0) then
        some true
        else
        Option.bind (l_eqParity x35.1 x26.1) fun x60 =>
        some (!x60)) fun p62 =>
        Option.bind (bif p62 then
        some true
        else
        some (x35.2 != x26.2)) fun p67 =>
        bif p67 then
          some (false : Bool)
        else
          Option.bind (l_markParity x35.1 1) fun x70 =>
          Option.bind (l_heldParity (⟨(⟨x70.2.1, x70.2.2.1⟩ : Arena), x70.2.2.2⟩ : Parity) 1) fun x73 =>
          bif decide (x73 < 0) then
            some (false : Bool)
          else
            bif (x73 != x70.1) then
              some (false : Bool)
            else
              Option.bind (l_toParity p0) fun x81 =>
              Option.bind (l_toEdit p1) fun x83 =>
              Option.bind (i_Edited x81 x83) fun x84 =>
              Option.bind (l_eqParity x84.1 x26.1) fun x89 =>
              Option.bind (bif (!x89) then
              some true
              else
              some (x84.2 != x26.2)) fun p95 =>
              bif p95 then
                some (false : Bool)
              else
                Option.bind (l_heldParity (⟨(⟨x70.2.1, x70.2.2.1⟩ : Arena), x70.2.2.2⟩ : Parity) 1) fun x98 =>
                bif decide (x98 < 0) then
                  some (false : Bool)
                else
                  bif (x98 != x70.1) then
                    some (false : Bool)
                  else
                    some (true : Bool)

/- loop.example/g00869/impl.isSig -/

def i_isSig (p0 : Sig) : Option (Bool) :=
  Option.bind (bif decide (1 ≤ p0.In) then
  some (decide (p0.In ≤ 2))
  else
  some false) fun p10 =>
  Option.bind (bif p10 then
  some (decide (1 ≤ p0.Out))
  else
  some false) fun p15 =>
  Option.bind (bif p15 then
  some (decide (p0.Out ≤ 2))
  else
  some false) fun p20 =>
  some (p20 : Bool)

/- loop.example/g00869/spec.SigOk -/

def s_SigOk (p0 : Sig) : Option (Bool) :=
  Option.bind (s_l1In p0.In 1 2) fun x5 =>
  Option.bind (bif x5 then
  Option.bind (s_l1In p0.Out 1 2) fun x9 =>
  some x9
  else
  some false) fun p10 =>
  some (p10 : Bool)

/- loop.example/g00869/spec.l23Below -/
def s_l23Below_b0 (p0 : (List Int)) (p1 : Int) (v5 : Int) (s1 : Unit) : Option (Bool ⊕ ((Unit) ⊕ (Unit))) :=
  Option.bind (idx p0 v5) fun x14 =>
  Option.bind (s_l1In x14 0 (IntKind.i64.wrap (p1 - 1))) fun x18 =>
  bif (!x18) then
    some (.inl (false : Bool))
  else
    some (.inr (.inr ()))
def s_l23Below (p0 : (List Int)) (p1 : Int) : Option (Bool) :=
  Option.bind (cntM (s_l23Below_b0 p0 p1) p0.length 0 ()) fun q2 =>
  aft (fun r => some r) (fun s3 =>
    some (true : Bool)) q2

/- loop.example/g00869/spec.l23Power -/
def s_l23Power_b0  (s1 : Int × Int) : Option (Int ⊕ ((Int × Int) ⊕ (Int × Int))) :=
  bif decide (0 < s1.1) then
    some (.inr (.inr (((IntKind.i64.wrap (s1.1 - 1)) : Int), ((IntKind.i64.wrap (s1.2 * 2)) : Int))))
  else
    some (.inr (.inl ((s1.1 : Int), (s1.2 : Int))))
def s_l23Power (p0 : Int) : Option (Int) :=
  Option.bind (whileM s_l23Power_b0 (2 ^ 64) ((p0 : Int), (1 : Int))) fun q2 =>
  aft (fun r => some r) (fun s3 =>
    some (s3.2 : Int)) q2

/- loop.example/g00869/impl.areLetters$1 -/

def i_areLetters_1 (p0 : Int) (c0 : Int) : Option (Bool) :=
  Option.bind (bif decide (p0 < 0) then
  some true
  else
  some (decide (c0 ≤ p0))) fun p10 =>
  some (p10 : Bool)

/- slices.IndexFunc[[]int64,int64] -/
def slices_IndexFunc_I_int64__i_areLetters_1_b0 (p0 : (List Int)) (c1_0 : Int) (v8 : Int) (s1 : Unit) : Option (Int ⊕ ((Unit) ⊕ (Unit))) :=
  Option.bind (idx p0 v8) fun x14 =>
  Option.bind (i_areLetters_1 x14 c1_0) fun x16 =>
  bif x16 then
    some (.inl (v8 : Int))
  else
    some (.inr (.inr ()))
def slices_IndexFunc_I_int64__i_areLetters_1 (p0 : (List Int)) (c1_0 : Int) : Option (Int) :=
  Option.bind (cntM (slices_IndexFunc_I_int64__i_areLetters_1_b0 p0 c1_0) p0.length 0 ()) fun q2 =>
  aft (fun r => some r) (fun s3 =>
    some ((-1) : Int)) q2

/- slices.ContainsFunc[[]int64,int64] -/

def slices_ContainsFunc_I_int64__i_areLetters_1 (p0 : (List Int)) (c1_0 : Int) : Option (Bool) :=
  Option.bind (slices_IndexFunc_I_int64__i_areLetters_1 p0 c1_0) fun x7 =>
  some (decide (0 ≤ x7) : Bool)

/- loop.example/g00869/impl.areLetters -/

def i_areLetters (p0 : (List Int)) (p1 : Int) : Option (Bool) :=
  Option.bind (slices_ContainsFunc_I_int64__i_areLetters_1 p0 p1) fun x7 =>
  some ((!x7) : Bool)

end Go.Proofs.Ytnmjfjppgpkieaa
