/- The functions on data. By program. -/
import Derived.Test.YtndiklipffipcaaTypes
set_option linter.unusedVariables false
set_option linter.unusedSimpArgs false
namespace Go.Proofs.Ytndiklipffipcaa
open Go Go.Wk Go.Proofs
set_option maxRecDepth 100000
set_option maxHeartbeats 1000000

/- loop.example/g00869/laws.szInt64S -/

def l_szInt64S (p0 : (List Int)) (p1 : Int) : Option (Int) :=
  bif decide ((IntKind.i64.wrap (p1 - (p0.length : Int))) < 0) then
    some ((-1) : Int)
  else
    some ((IntKind.i64.wrap (p1 - (p0.length : Int))) : Int)

/- loop.example/g00869/laws.szInt64SS -/
def l_szInt64SS_b0 (p0 : (List (List Int))) (v5 : Int) (s1 : Int) : Option (Int ⊕ ((Int) ⊕ (Int))) :=
  Option.bind (idx p0 v5) fun x20 =>
  Option.bind (l_szInt64S x20 s1) fun x23 =>
  bif decide (x23 < 0) then
    some (.inl ((-1) : Int))
  else
    some (.inr (.inr (x23 : Int)))
def l_szInt64SS (p0 : (List (List Int))) (p1 : Int) : Option (Int) :=
  bif decide ((IntKind.i64.wrap (p1 - (p0.length : Int))) < 0) then
    some ((-1) : Int)
  else
    Option.bind (cntM (l_szInt64SS_b0 p0) p0.length 0 ((IntKind.i64.wrap (p1 - (p0.length : Int))) : Int)) fun q2 =>
    aft (fun r => some r) (fun s3 =>
      some (s3 : Int)) q2

/- loop.example/g00869/laws.szArena -/

def l_szArena (p0 : Arena) (p1 : Int) : Option (Int) :=
  Option.bind (l_szInt64S p0.Owner p1) fun x8 =>
  bif decide (x8 < 0) then
    some ((-1) : Int)
  else
    Option.bind (l_szInt64SS p0.Next x8) fun x14 =>
    bif decide (x14 < 0) then
      some ((-1) : Int)
    else
      some (x14 : Int)

/- loop.example/g00869/laws.szParity -/

def l_szParity (p0 : Parity) (p1 : Int) : Option (Int) :=
  Option.bind (l_szArena p0.Arena p1) fun x8 =>
  bif decide (x8 < 0) then
    some ((-1) : Int)
  else
    Option.bind (l_szInt64S p0.Prio x8) fun x14 =>
    bif decide (x14 < 0) then
      some ((-1) : Int)
    else
      some (x14 : Int)

/- loop.example/g00869/laws.toInt64S -/
def l_toInt64S_b0 (p0 : (List Int)) (v4 : Int) (s1 : (List Int)) : Option ((List Int) ⊕ (((List Int)) ⊕ ((List Int)))) :=
  Option.bind (idx p0 v4) fun x18 =>
  Option.bind (idx s1 v4) fun x20 =>
  Option.bind (setI s1 v4 x18) fun y1 =>
  some (.inr (.inr (y1 : (List Int))))
def l_toInt64S (p0 : (List Int)) : Option ((List Int)) :=
  Option.bind (mkS 8 (p0.length : Int) (0 : Int)) fun x7 =>
  Option.bind (cntM (l_toInt64S_b0 p0) p0.length 0 (x7 : (List Int))) fun q2 =>
  aft (fun r => some r) (fun s3 =>
    some (s3 : (List Int))) q2

/- loop.example/g00869/laws.toInt64SS -/
def l_toInt64SS_b0 (p0 : (List (List Int))) (v4 : Int) (s1 : (List (List Int))) : Option ((List (List Int)) ⊕ (((List (List Int))) ⊕ ((List (List Int))))) :=
  Option.bind (idx p0 v4) fun x18 =>
  Option.bind (l_toInt64S x18) fun x20 =>
  Option.bind (idx s1 v4) fun x21 =>
  Option.bind (setI s1 v4 (x20 : (List Int))) fun y3 =>
  some (.inr (.inr (y3 : (List (List Int)))))
def l_toInt64SS (p0 : (List (List Int))) : Option ((List (List Int))) :=
  Option.bind (mkS 24 (p0.length : Int) (([] : List Int) : (List Int))) fun x7 =>
  Option.bind (cntM (l_toInt64SS_b0 p0) p0.length 0 (x7 : (List (List Int)))) fun q2 =>
  aft (fun r => some r) (fun s3 =>
    some (s3 : (List (List Int)))) q2

/- loop.example/g00869/laws.toArena -/

def l_toArena (p0 : Arena) : Option (Arena) :=
  Option.bind (l_toInt64S p0.Owner) fun x6 =>
  Option.bind (l_toInt64SS p0.Next) fun x10 =>
  some ((⟨x6, x10⟩ : Arena) : Arena)

/- loop.example/g00869/laws.toParity -/

def l_toParity (p0 : Parity) : Option (Parity) :=
  Option.bind (l_toArena p0.Arena) fun x6 =>
  Option.bind (l_toInt64S p0.Prio) fun x10 =>
  some ((⟨x6, x10⟩ : Parity) : Parity)

/- loop.example/g00869/laws.toEdit -/

def l_toEdit (p0 : Edit) : Option (Edit) :=
  some ((⟨p0.Kind, p0.V, p0.N⟩ : Edit) : Edit)

/- loop.example/g00869/spec.l1In -/

def s_l1In (p0 : Int) (p1 : Int) (p2 : Int) : Option (Bool) :=
  Option.bind (bif decide (p1 ≤ p0) then
  some (decide (p0 ≤ p2))
  else
  some false) fun p14 =>
  some (p14 : Bool)

/- loop.example/g00869/spec.l1Rises -/
def s_l1Rises_b0 (p0 : (List Int)) (p1 : Int) (v5 : Int) (s1 : Unit) : Option (Bool ⊕ ((Unit) ⊕ (Unit))) :=
  Option.bind (idx p0 v5) fun x14 =>
  Option.bind (s_l1In x14 0 (IntKind.i64.wrap (p1 - 1))) fun x18 =>
  Option.bind (bif (!x18) then
  some true
  else
  Option.bind (bif decide (0 < v5) then
  Option.bind (idx p0 v5) fun x26 =>
  Option.bind (idx p0 (IntKind.i64.wrap (v5 - 1))) fun x31 =>
  some (decide (x26 ≤ x31))
  else
  some false) fun p34 =>
  some p34) fun p35 =>
  bif p35 then
    some (.inl (false : Bool))
  else
    some (.inr (.inr ()))
def s_l1Rises (p0 : (List Int)) (p1 : Int) : Option (Bool) :=
  Option.bind (cntM (s_l1Rises_b0 p0 p1) p0.length 0 ()) fun q2 =>
  aft (fun r => some r) (fun s3 =>
    some (true : Bool)) q2

/- loop.example/g00869/spec.l1Set -/

def s_l1Set (p0 : (List Int)) (p1 : Int) : Option (Bool) :=
  Option.bind (bif decide ((p0.length : Int) ≤ p1) then
  Option.bind (s_l1Rises p0 p1) fun x12 =>
  some x12
  else
  some false) fun p13 =>
  some (p13 : Bool)

/- loop.example/g00869/spec.ArenaOk -/
def s_ArenaOk_b0 (p0 : Arena) (v4 : Int) (s1 : Unit) : Option (Bool ⊕ ((Unit) ⊕ (Unit))) :=
  Option.bind (idx p0.Owner v4) fun x30 =>
  Option.bind (s_l1In x30 0 1) fun x32 =>
  Option.bind (bif (!x32) then
  some true
  else
  Option.bind (idx p0.Next v4) fun x38 =>
  some (decide ((x38.length : Int) < 1))) fun p42 =>
  Option.bind (bif p42 then
  some true
  else
  Option.bind (idx p0.Next v4) fun x47 =>
  some (decide (16 < (x47.length : Int)))) fun p51 =>
  Option.bind (bif p51 then
  some true
  else
  Option.bind (idx p0.Next v4) fun x56 =>
  Option.bind (s_l1Set x56 (p0.Owner.length : Int)) fun x59 =>
  some (!x59)) fun p61 =>
  bif p61 then
    some (.inl (false : Bool))
  else
    some (.inr (.inr ()))
def s_ArenaOk (p0 : Arena) : Option (Bool) :=
  Option.bind (s_l1In (p0.Owner.length : Int) 1 256) fun x9 =>
  Option.bind (bif (!x9) then
  some true
  else
  some ((p0.Next.length : Int) != (p0.Owner.length : Int))) fun p19 =>
  bif p19 then
    some (false : Bool)
  else
    Option.bind (cntM (s_ArenaOk_b0 p0) p0.Owner.length 0 ()) fun q2 =>
    aft (fun r => some r) (fun s3 =>
      some (true : Bool)) q2

/- loop.example/g00869/spec.ParityOk -/
def s_ParityOk_b0 (p0 : Parity) (v3 : Int) (s1 : Unit) : Option (Bool ⊕ ((Unit) ⊕ (Unit))) :=
  Option.bind (idx p0.Prio v3) fun x28 =>
  Option.bind (s_l1In x28 0 40) fun x30 =>
  bif (!x30) then
    some (.inl (false : Bool))
  else
    some (.inr (.inr ()))
def s_ParityOk (p0 : Parity) : Option (Bool) :=
  Option.bind (s_ArenaOk p0.Arena) fun x6 =>
  Option.bind (bif (!x6) then
  some true
  else
  some ((p0.Prio.length : Int) != (p0.Arena.Owner.length : Int))) fun p17 =>
  bif p17 then
    some (false : Bool)
  else
    Option.bind (cntM (s_ParityOk_b0 p0) p0.Prio.length 0 ()) fun q2 =>
    aft (fun r => some r) (fun s3 =>
      some (true : Bool)) q2

/- loop.example/g00869/spec.l16Has -/
def s_l16Has_b0 (p0 : (List Int)) (p1 : Int) (v5 : Int) (s1 : Unit) : Option (Bool ⊕ ((Unit) ⊕ (Unit))) :=
  Option.bind (idx p0 v5) fun x14 =>
  bif (x14 == p1) then
    some (.inl (true : Bool))
  else
    some (.inr (.inr ()))
def s_l16Has (p0 : (List Int)) (p1 : Int) : Option (Bool) :=
  Option.bind (cntM (s_l16Has_b0 p0 p1) p0.length 0 ()) fun q2 =>
  aft (fun r => some r) (fun s3 =>
    some (false : Bool)) q2

/- loop.example/g00869/spec.EditOk -/

def s_EditOk (p0 : Parity) (p1 : Edit) : Option (Bool) :=
  Option.bind (s_ParityOk p0) fun x11 =>
  Option.bind (bif (!x11) then
  some true
  else
  Option.bind (s_l1In p1.V 0 (IntKind.i64.wrap ((p0.Prio.length : Int) - 1))) fun x18 =>
  some (!x18)) fun p20 =>
  bif p20 then
    some (false : Bool)
  else
    Option.bind (idx p0.Arena.Next p1.V) fun x26 =>
    bif (p1.Kind == 1) then
      Option.bind (s_l1In p1.N 0 40) fun x34 =>
      some (x34 : Bool)
    else
      bif (p1.Kind == 2) then
        Option.bind (s_l1In p1.N 0 1) fun x39 =>
        some (x39 : Bool)
      else
        bif (p1.Kind == 3) then
          Option.bind (s_l1In p1.N 0 (IntKind.i64.wrap ((p0.Prio.length : Int) - 1))) fun x46 =>
          Option.bind (bif x46 then
          Option.bind (s_l16Has x26 p1.N) fun x51 =>
          some (!x51)
          else
          some false) fun p53 =>
          Option.bind (bif p53 then
          some (decide ((x26.length : Int) < 16))
          else
          some false) fun p58 =>
          some (p58 : Bool)
        else
          bif (p1.Kind == 4) then
            Option.bind (s_l16Has x26 p1.N) fun x64 =>
            Option.bind (bif x64 then
            some (decide (1 < (x26.length : Int)))
            else
            some false) fun p69 =>
            some (p69 : Bool)
          else
            some (false : Bool)

/- loop.example/g00869/spec.l7Of -/
def s_l7Of_b2 (p0 : Parity) (v5 : Int) (s4 : Int × (List (List Int))) : Option (l7Game ⊕ ((Int × (List (List Int))) ⊕ (Int × (List (List Int))))) :=
  Option.bind (idx p0.Arena.Next v5) fun x38 =>
  bif decide (s4.1 < (x38.length : Int)) then
    Option.bind (idx p0.Arena.Next v5) fun x48 =>
    Option.bind (idx x48 s4.1) fun x51 =>
    Option.bind (idx s4.2 x51) fun x59 =>
    Option.bind (appS 8 x59 ([v5] : List Int)) fun x63 =>
    Option.bind (idx s4.2 x51) fun x64 =>
    Option.bind (setI s4.2 x51 (x63 : (List Int))) fun y9 =>
    some (.inr (.inr (((IntKind.i64.wrap (s4.1 + 1)) : Int), (y9 : (List (List Int))))))
  else
    some (.inr (.inl ((s4.1 : Int), (s4.2 : (List (List Int))))))
def s_l7Of_b0 (p0 : Parity) (v5 : Int) (s1 : (List (List Int)) × (List Int)) : Option (l7Game ⊕ (((List (List Int)) × (List Int)) ⊕ ((List (List Int)) × (List Int)))) :=
  Option.bind (idx s1.2 v5) fun x32 =>
  Option.bind (setI s1.2 v5 (-1)) fun y7 =>
  Option.bind (whileM (s_l7Of_b2 p0 v5) (2 ^ 64) ((0 : Int), (s1.1 : (List (List Int))))) fun q5 =>
  aft (fun r => some (.inl r)) (fun s6 =>
    some (.inr (.inr ((s6.2 : (List (List Int))), (y7 : (List Int)))))) q5
def s_l7Of (p0 : Parity) : Option (l7Game) :=
  Option.bind (mkS 24 (p0.Prio.length : Int) (([] : List Int) : (List Int))) fun x20 =>
  Option.bind (mkS 8 (p0.Prio.length : Int) (0 : Int)) fun x22 =>
  Option.bind (cntM (s_l7Of_b0 p0) p0.Prio.length 0 (((⟨p0.Arena.Owner, p0.Prio, p0.Arena.Next, x20, x22⟩ : l7Game).prev : (List (List Int))), ((⟨p0.Arena.Owner, p0.Prio, p0.Arena.Next, x20, x22⟩ : l7Game).pick : (List Int)))) fun q2 =>
  aft (fun r => some r) (fun s3 =>
    some ((⟨(⟨p0.Arena.Owner, p0.Prio, p0.Arena.Next, x20, x22⟩ : l7Game).owner, (⟨p0.Arena.Owner, p0.Prio, p0.Arena.Next, x20, x22⟩ : l7Game).prio, (⟨p0.Arena.Owner, p0.Prio, p0.Arena.Next, x20, x22⟩ : l7Game).next, s3.1, s3.2⟩ : l7Game) : l7Game)) q2

/- loop.example/g00869/spec.l7All -/
def s_l7All_b0  (v4 : Int) (s1 : (List Bool)) : Option ((List Bool) ⊕ (((List Bool)) ⊕ ((List Bool)))) :=
  Option.bind (idx s1 v4) fun x14 =>
  Option.bind (setI s1 v4 true) fun y11 =>
  some (.inr (.inr (y11 : (List Bool))))
def s_l7All (p0 : Int) : Option ((List Bool)) :=
  Option.bind (mkS 1 p0 (false : Bool)) fun x6 =>
  Option.bind (rng p0) fun _ =>
  Option.bind (cntM s_l7All_b0 (Int.toNat (p0 - 0)) 0 (x6 : (List Bool))) fun q2 =>
  aft (fun r => some r) (fun s3 =>
    some (s3 : (List Bool))) q2

/- loop.example/g00869/spec.l1Max -/

def s_l1Max (p0 : Int) (p1 : Int) : Option (Int) :=
  bif decide (p1 < p0) then
    some (p0 : Int)
  else
    some (p1 : Int)

/- loop.example/g00869/spec.l7Top -/
def s_l7Top_b0 (p0 : l7Game) (p1 : (List Bool)) (v6 : Int) (s1 : Int) : Option (Int ⊕ ((Int) ⊕ (Int))) :=
  Option.bind (idx p1 v6) fun x15 =>
  Option.bind (bif x15 then
    Option.bind (idx p0.prio v6) fun x21 =>
    Option.bind (s_l1Max s1 x21) fun x23 =>
    some (x23 : Int)
  else
    some (s1 : Int)) fun q4 =>
  some (.inr (.inr (q4 : Int)))
def s_l7Top (p0 : l7Game) (p1 : (List Bool)) : Option (Int) :=
  Option.bind (cntM (s_l7Top_b0 p0 p1) p1.length 0 ((-1) : Int)) fun q2 =>
  aft (fun r => some r) (fun s3 =>
    some (s3 : Int)) q2

/- loop.example/g00869/spec.l7Edge -/

def s_l7Edge (p0 : l7Game) (p1 : Int) (p2 : Int) : Option (Bool) :=
  Option.bind (idx p0.pick p1) fun x10 =>
  Option.bind (bif decide (x10 < 0) then
  some true
  else
  Option.bind (idx p0.pick p1) fun x17 =>
  some (x17 == p2)) fun p21 =>
  some (p21 : Bool)

/- loop.example/g00869/spec.l7Degree -/
def s_l7Degree_b0 (p0 : l7Game) (p1 : (List Bool)) (p2 : Int) (s1 : Int × Int) : Option (Int ⊕ ((Int × Int) ⊕ (Int × Int))) :=
  Option.bind (idx p0.next p2) fun x14 =>
  bif decide (s1.2 < (x14.length : Int)) then
    Option.bind (idx p0.next p2) fun x23 =>
    Option.bind (idx x23 s1.2) fun x26 =>
    Option.bind (idx p1 x26) fun x30 =>
    Option.bind (bif x30 then
    Option.bind (s_l7Edge p0 p2 x26) fun x36 =>
    some x36
    else
    some false) fun p37 =>
    Option.bind (bif p37 then
      some ((IntKind.i64.wrap (s1.1 + 1)) : Int)
    else
      some (s1.1 : Int)) fun q4 =>
    some (.inr (.inr ((q4 : Int), ((IntKind.i64.wrap (s1.2 + 1)) : Int))))
  else
    some (.inr (.inl ((s1.1 : Int), (s1.2 : Int))))
def s_l7Degree (p0 : l7Game) (p1 : (List Bool)) (p2 : Int) : Option (Int) :=
  Option.bind (whileM (s_l7Degree_b0 p0 p1 p2) (2 ^ 64) ((0 : Int), (0 : Int))) fun q2 =>
  aft (fun r => some r) (fun s3 =>
    some (s3.1 : Int)) q2

/- loop.example/g00869/spec.l7Attract -/
def s_l7Attract_b0 (p0 : l7Game) (p1 : (List Bool)) (p3 : (List Bool)) (v12 : Int) (s1 : (List Int) × (List Bool) × (List Int)) : Option ((List Bool) ⊕ (((List Int) × (List Bool) × (List Int)) ⊕ ((List Int) × (List Bool) × (List Int)))) :=
  Option.bind (idx p1 v12) fun x32 =>
  Option.bind (bif x32 then
    Option.bind (s_l7Degree p0 p1 v12) fun x39 =>
    Option.bind (idx s1.2.2 v12) fun x40 =>
    Option.bind (setI s1.2.2 v12 x39) fun y18 =>
    some (y18 : (List Int))
  else
    some (s1.2.2 : (List Int))) fun q4 =>
  Option.bind (idx p1 v12) fun x43 =>
  Option.bind (bif x43 then
  Option.bind (idx p3 v12) fun x48 =>
  some x48
  else
  some false) fun p50 =>
  Option.bind (bif p50 then
    Option.bind (idx s1.2.1 v12) fun x53 =>
    Option.bind (setI s1.2.1 v12 true) fun y19 =>
    Option.bind (appS 8 s1.1 ([v12] : List Int)) fun x57 =>
    some ((x57 : (List Int)), (y19 : (List Bool)))
  else
    some ((s1.1 : (List Int)), (s1.2.1 : (List Bool)))) fun q5 =>
  some (.inr (.inr ((q5.1 : (List Int)), (q5.2 : (List Bool)), (q4 : (List Int)))))
def s_l7Attract_b4 (p0 : l7Game) (p1 : (List Bool)) (p2 : Int) (x66 : Int) (s9 : (List Int) × Int × (List Bool) × (List Int)) : Option ((List Bool) ⊕ (((List Int) × Int × (List Bool) × (List Int)) ⊕ ((List Int) × Int × (List Bool) × (List Int)))) :=
  Option.bind (idx p0.prev x66) fun x72 =>
  bif decide (s9.2.1 < (x72.length : Int)) then
    Option.bind (idx p0.prev x66) fun x81 =>
    Option.bind (idx x81 s9.2.1) fun x84 =>
    Option.bind (idx p1 x84) fun x88 =>
    Option.bind (bif (!x88) then
    some true
    else
    Option.bind (idx s9.2.2.1 x84) fun x94 =>
    some x94) fun p96 =>
    Option.bind (bif p96 then
    some true
    else
    Option.bind (s_l7Edge p0 x84 x66) fun x101 =>
    some (!x101)) fun p103 =>
    bif p103 then
      some (.inr (.inr ((s9.1 : (List Int)), ((IntKind.i64.wrap (s9.2.1 + 1)) : Int), (s9.2.2.1 : (List Bool)), (s9.2.2.2 : (List Int)))))
    else
      Option.bind (idx s9.2.2.2 x84) fun x106 =>
      Option.bind (idx s9.2.2.2 x84) fun x109 =>
      Option.bind (setI s9.2.2.2 x84 (IntKind.i64.wrap (x106 - 1))) fun y21 =>
      Option.bind (idx p0.owner x84) fun x113 =>
      Option.bind (bif (x113 == p2) then
      some true
      else
      Option.bind (idx y21 x84) fun x120 =>
      some (x120 == 0)) fun p123 =>
      Option.bind (bif p123 then
        Option.bind (idx s9.2.2.1 x84) fun x126 =>
        Option.bind (setI s9.2.2.1 x84 true) fun y22 =>
        Option.bind (appS 8 s9.1 ([x84] : List Int)) fun x130 =>
        some ((x130 : (List Int)), (y22 : (List Bool)))
      else
        some ((s9.1 : (List Int)), (s9.2.2.1 : (List Bool)))) fun q12 =>
      some (.inr (.inr ((q12.1 : (List Int)), ((IntKind.i64.wrap (s9.2.1 + 1)) : Int), (q12.2 : (List Bool)), (y21 : (List Int)))))
  else
    some (.inr (.inl ((s9.1 : (List Int)), (s9.2.1 : Int), (s9.2.2.1 : (List Bool)), (s9.2.2.2 : (List Int)))))
def s_l7Attract_b2 (p0 : l7Game) (p1 : (List Bool)) (p2 : Int) (s6 : (List Int) × Int × (List Bool) × (List Int)) : Option ((List Bool) ⊕ (((List Int) × Int × (List Bool) × (List Int)) ⊕ ((List Int) × Int × (List Bool) × (List Int)))) :=
  bif decide (s6.2.1 < (s6.1.length : Int)) then
    Option.bind (idx s6.1 s6.2.1) fun x66 =>
    Option.bind (whileM (s_l7Attract_b4 p0 p1 p2 x66) (2 ^ 64) ((s6.1 : (List Int)), (0 : Int), (s6.2.2.1 : (List Bool)), (s6.2.2.2 : (List Int)))) fun q10 =>
    aft (fun r => some (.inl r)) (fun s11 =>
      some (.inr (.inr ((s11.1 : (List Int)), ((IntKind.i64.wrap (s6.2.1 + 1)) : Int), (s11.2.2.1 : (List Bool)), (s11.2.2.2 : (List Int)))))) q10
  else
    some (.inr (.inl ((s6.1 : (List Int)), (s6.2.1 : Int), (s6.2.2.1 : (List Bool)), (s6.2.2.2 : (List Int)))))
def s_l7Attract (p0 : l7Game) (p1 : (List Bool)) (p2 : Int) (p3 : (List Bool)) : Option ((List Bool)) :=
  Option.bind (mkS 1 (p1.length : Int) (false : Bool)) fun x19 =>
  Option.bind (mkS 8 (p1.length : Int) (0 : Int)) fun x22 =>
  Option.bind (cntM (s_l7Attract_b0 p0 p1 p3) p1.length 0 ((([] : List Int) : (List Int)), (x19 : (List Bool)), (x22 : (List Int)))) fun q2 =>
  aft (fun r => some r) (fun s3 =>
    Option.bind (whileM (s_l7Attract_b2 p0 p1 p2) (2 ^ 64) ((s3.1 : (List Int)), (0 : Int), (s3.2.1 : (List Bool)), (s3.2.2 : (List Int)))) fun q7 =>
    aft (fun r => some r) (fun s8 =>
      some (s8.2.2.1 : (List Bool))) q7) q2

/- loop.example/g00869/spec.l7Less -/
def s_l7Less_b0 (p0 : (List Bool)) (p1 : (List Bool)) (v6 : Int) (s1 : (List Bool)) : Option ((List Bool) ⊕ (((List Bool)) ⊕ ((List Bool)))) :=
  Option.bind (idx p0 v6) fun x20 =>
  Option.bind (bif x20 then
  Option.bind (idx p1 v6) fun x25 =>
  some (!x25)
  else
  some false) fun p28 =>
  Option.bind (idx s1 v6) fun x29 =>
  Option.bind (setI s1 v6 p28) fun y25 =>
  some (.inr (.inr (y25 : (List Bool))))
def s_l7Less (p0 : (List Bool)) (p1 : (List Bool)) : Option ((List Bool)) :=
  Option.bind (mkS 1 (p0.length : Int) (false : Bool)) fun x9 =>
  Option.bind (cntM (s_l7Less_b0 p0 p1) p0.length 0 (x9 : (List Bool))) fun q2 =>
  aft (fun r => some r) (fun s3 =>
    some (s3 : (List Bool))) q2

/- loop.example/g00869/spec.l7Win -/
def s_l7Win_b0 (p0 : l7Game) (p1 : (List Bool)) (x21 : Int) (v9 : Int) (s1 : (List Bool)) : Option ((List Bool) ⊕ (((List Bool)) ⊕ ((List Bool)))) :=
  Option.bind (idx p1 v9) fun x43 =>
  Option.bind (bif x43 then
  Option.bind (idx p0.prio v9) fun x49 =>
  some (x49 == x21)
  else
  some false) fun p53 =>
  Option.bind (idx s1 v9) fun x54 =>
  Option.bind (setI s1 v9 p53) fun y14 =>
  some (.inr (.inr (y14 : (List Bool))))
def s_l7Win_b2 (x21 : Int) (x61 : (List Bool)) (x64 : (List Bool)) (v14 : Int) (s4 : Bool × (List Bool)) : Option ((List Bool) ⊕ ((Bool × (List Bool)) ⊕ (Bool × (List Bool)))) :=
  Option.bind (idx x61 v14) fun x78 =>
  Option.bind (bif x78 then
  Option.bind (idx x64 v14) fun x83 =>
  some (x83 != ((Int.tmod x21 2) == 0))
  else
  some false) fun p88 =>
  Option.bind (idx s4.2 v14) fun x89 =>
  Option.bind (setI s4.2 v14 p88) fun y27 =>
  Option.bind (bif s4.1 then
  some true
  else
  Option.bind (idx y27 v14) fun x94 =>
  some x94) fun p96 =>
  some (.inr (.inr ((p96 : Bool), (y27 : (List Bool)))))
def s_l7Win_b4 (p1 : (List Bool)) (x21 : Int) (v15 : Int) (s7 : (List Bool)) : Option ((List Bool) ⊕ (((List Bool)) ⊕ ((List Bool)))) :=
  Option.bind (idx p1 v15) fun x109 =>
  Option.bind (bif x109 then
  some ((Int.tmod x21 2) == 0)
  else
  some false) fun p114 =>
  Option.bind (idx s7 v15) fun x115 =>
  Option.bind (setI s7 v15 p114) fun y28 =>
  some (.inr (.inr (y28 : (List Bool))))
def s_l7Win_b6 (x21 : Int) (x122 : (List Bool)) (x127 : (List Bool)) (v18 : Int) (s10 : (List Bool)) : Option ((List Bool) ⊕ (((List Bool)) ⊕ ((List Bool)))) :=
  Option.bind (idx x127 v18) fun x138 =>
  Option.bind (bif x138 then
  some true
  else
  Option.bind (idx x122 v18) fun x143 =>
  Option.bind (bif x143 then
  some ((Int.tmod x21 2) == 1)
  else
  some false) fun p148 =>
  some p148) fun p149 =>
  Option.bind (idx s10 v18) fun x150 =>
  Option.bind (setI s10 v18 p149) fun y29 =>
  some (.inr (.inr (y29 : (List Bool))))
def s_l7Win_s (rc : l7Game → (List Bool) → Option ((List Bool))) (p0 : l7Game) (p1 : (List Bool)) : Option ((List Bool)) :=
  Option.bind (s_l7Top p0 p1) fun x21 =>
  Option.bind (mkS 1 (p1.length : Int) (false : Bool)) fun x24 =>
  bif decide (x21 < 0) then
    some (x24 : (List Bool))
  else
    Option.bind (mkS 1 (p1.length : Int) (false : Bool)) fun x32 =>
    Option.bind (cntM (s_l7Win_b0 p0 p1 x21) p1.length 0 (x32 : (List Bool))) fun q2 =>
    aft (fun r => some r) (fun s3 =>
      Option.bind (s_l7Attract p0 p1 (Int.tmod x21 2) s3) fun x60 =>
      Option.bind (s_l7Less p1 x60) fun x61 =>
      Option.bind (rc p0 x61) fun x64 =>
      Option.bind (mkS 1 (p1.length : Int) (false : Bool)) fun x67 =>
      Option.bind (cntM (s_l7Win_b2 x21 x61 x64) p1.length 0 ((false : Bool), (x67 : (List Bool)))) fun q5 =>
      aft (fun r => some r) (fun s6 =>
        bif (!s6.1) then
          Option.bind (cntM (s_l7Win_b4 p1 x21) p1.length 0 (x24 : (List Bool))) fun q8 =>
          aft (fun r => some r) (fun s9 =>
            some (s9 : (List Bool))) q8
        else
          Option.bind (s_l7Attract p0 p1 (IntKind.i64.wrap (1 - (Int.tmod x21 2))) s6.2) fun x122 =>
          Option.bind (s_l7Less p1 x122) fun x126 =>
          Option.bind (rc p0 x126) fun x127 =>
          Option.bind (cntM (s_l7Win_b6 x21 x122 x127) p1.length 0 (x24 : (List Bool))) fun q11 =>
          aft (fun r => some r) (fun s12 =>
            some (s12 : (List Bool))) q11) q5) q2
def s_l7Win : Nat → l7Game → (List Bool) → Option ((List Bool))
  | 0 => fun _ _ => none
  | n + 1 => s_l7Win_s (s_l7Win n)

/- loop.example/g00869/spec.l1Flag -/

def s_l1Flag (p0 : Bool) : Option (Int) :=
  bif p0 then
    some (1 : Int)
  else
    some (0 : Int)

/- loop.example/g00869/spec.l7Won -/
def s_l7Won_b0 (x12 : (List Bool)) (v5 : Int) (s1 : (List Int)) : Option ((List Int) ⊕ (((List Int)) ⊕ ((List Int)))) :=
  Option.bind (idx x12 v5) fun x23 =>
  Option.bind (s_l1Flag x23) fun x25 =>
  Option.bind (appS 8 s1 ([(IntKind.i64.wrap (1 - x25))] : List Int)) fun x28 =>
  some (.inr (.inr (x28 : (List Int))))
def s_l7Won (p0 : Parity) : Option ((List Int)) :=
  Option.bind (s_l7Of p0) fun x7 =>
  Option.bind (s_l7All (p0.Prio.length : Int)) fun x11 =>
  Option.bind (s_l7Win (2 ^ 64) x7 x11) fun x12 =>
  Option.bind (cntM (s_l7Won_b0 x12) x12.length 0 (([] : List Int) : (List Int))) fun q2 =>
  aft (fun r => some r) (fun s3 =>
    some (s3 : (List Int))) q2

/- loop.example/g00869/spec.l1Copy -/

def s_l1Copy (p0 : (List Int)) : Option ((List Int)) :=
  Option.bind (appS 8 ([] : List Int) p0) fun x5 =>
  some (x5 : (List Int))

/- loop.example/g00869/spec.l1Into -/
def s_l1Into_b0 (p0 : (List Int)) (p1 : Int) (s1 : Int) : Option ((List Int) ⊕ ((Int) ⊕ (Int))) :=
  Option.bind (bif decide (s1 < (p0.length : Int)) then
  Option.bind (idx p0 s1) fun x14 =>
  some (decide (x14 < p1))
  else
  some false) fun p18 =>
  bif p18 then
    some (.inr (.inr ((IntKind.i64.wrap (s1 + 1)) : Int)))
  else
    some (.inr (.inl (s1 : Int)))
def s_l1Into (p0 : (List Int)) (p1 : Int) : Option ((List Int)) :=
  Option.bind (whileM (s_l1Into_b0 p0 p1) (2 ^ 64) (0 : Int)) fun q2 =>
  aft (fun r => some r) (fun s3 =>
    Option.bind (bif decide (s3 < (p0.length : Int)) then
    Option.bind (idx p0 s3) fun x28 =>
    some (x28 == p1)
    else
    some false) fun p32 =>
    bif p32 then
      some (p0 : (List Int))
    else
      Option.bind (subS p0 0 s3) fun x36 =>
      Option.bind (s_l1Copy x36) fun x37 =>
      Option.bind (appS 8 x37 ([p1] : List Int)) fun x40 =>
      Option.bind (subS p0 s3 (p0.length : Int)) fun x44 =>
      Option.bind (appS 8 x40 x44) fun x45 =>
      some (x45 : (List Int))) q2

/- loop.example/g00869/spec.l1CopyArena -/
def s_l1CopyArena_b0 (p0 : Arena) (v4 : Int) (s1 : (List (List Int))) : Option (Arena ⊕ (((List (List Int))) ⊕ ((List (List Int))))) :=
  Option.bind (idx p0.Next v4) fun x21 =>
  Option.bind (s_l1Copy x21) fun x23 =>
  Option.bind (appS 24 s1 ([x23] : List (List Int))) fun x25 =>
  some (.inr (.inr (x25 : (List (List Int)))))
def s_l1CopyArena (p0 : Arena) : Option (Arena) :=
  Option.bind (s_l1Copy p0.Owner) fun x7 =>
  Option.bind (cntM (s_l1CopyArena_b0 p0) p0.Next.length 0 (([] : List (List Int)) : (List (List Int)))) fun q2 =>
  aft (fun r => some r) (fun s3 =>
    some ((⟨x7, s3⟩ : Arena) : Arena)) q2

/- loop.example/g00869/spec.l4Copy -/

def s_l4Copy (p0 : Parity) : Option (Parity) :=
  Option.bind (s_l1CopyArena p0.Arena) fun x5 =>
  Option.bind (s_l1Copy p0.Prio) fun x8 =>
  some ((⟨x5, x8⟩ : Parity) : Parity)

/- loop.example/g00869/spec.l32Do -/
def s_l32Do_b1 (p0 : Parity) (p1 : Edit) (s5 : (List Int) × Int) : Option (Parity ⊕ (((List Int) × Int) ⊕ ((List Int) × Int))) :=
  Option.bind (idx p0.Arena.Next p1.V) fun x58 =>
  bif decide (s5.2 < (x58.length : Int)) then
    Option.bind (idx p0.Arena.Next p1.V) fun x69 =>
    Option.bind (idx x69 s5.2) fun x72 =>
    Option.bind (bif (x72 != p1.N) then
      Option.bind (idx p0.Arena.Next p1.V) fun x83 =>
      Option.bind (idx x83 s5.2) fun x86 =>
      Option.bind (appS 8 s5.1 ([x86] : List Int)) fun x89 =>
      some (x89 : (List Int))
    else
      some (s5.1 : (List Int))) fun q8 =>
    some (.inr (.inr ((q8 : (List Int)), ((IntKind.i64.wrap (s5.2 + 1)) : Int))))
  else
    some (.inr (.inl ((s5.1 : (List Int)), (s5.2 : Int))))
def s_l32Do (p0 : Parity) (p1 : Edit) : Option (Parity) :=
  Option.bind (s_l4Copy p0) fun x9 =>
  Option.bind (bif (p1.Kind == 1) then
    Option.bind (idx x9.Prio p1.V) fun x20 =>
    Option.bind (setI x9.Prio p1.V p1.N) fun y34 =>
    some ((x9.Arena.Owner : (List Int)), (x9.Arena.Next : (List (List Int))), (y34 : (List Int)))
  else
    Option.bind (bif (p1.Kind == 2) then
      Option.bind (idx x9.Arena.Owner p1.V) fun x30 =>
      Option.bind (setI x9.Arena.Owner p1.V p1.N) fun y35 =>
      some ((y35 : (List Int)), (x9.Arena.Next : (List (List Int))))
    else
      Option.bind (bif (p1.Kind == 3) then
        Option.bind (idx x9.Arena.Next p1.V) fun x43 =>
        Option.bind (s_l1Into x43 p1.N) fun x47 =>
        Option.bind (idx x9.Arena.Next p1.V) fun x48 =>
        Option.bind (setI x9.Arena.Next p1.V (x47 : (List Int))) fun y37 =>
        some (y37 : (List (List Int)))
      else
        Option.bind (bif (p1.Kind == 4) then
          Option.bind (whileM (s_l32Do_b1 p0 p1) (2 ^ 64) ((([] : List Int) : (List Int)), (0 : Int))) fun q6 =>
          aft (fun r => none) (fun s7 =>
            Option.bind (idx x9.Arena.Next p1.V) fun x96 =>
            Option.bind (setI x9.Arena.Next p1.V (s7.1 : (List Int))) fun y40 =>
            some (y40 : (List (List Int)))) q6
        else
          some (x9.Arena.Next : (List (List Int)))) fun q4 =>
        some (q4 : (List (List Int)))) fun q3 =>
      some ((x9.Arena.Owner : (List Int)), (q3 : (List (List Int))))) fun q2 =>
    some ((q2.1 : (List Int)), (q2.2 : (List (List Int))), (x9.Prio : (List Int)))) fun q1 =>
  some ((⟨(⟨q1.1, q1.2.1⟩ : Arena), q1.2.2⟩ : Parity) : Parity)

/- loop.example/g00869/spec.TurnedBy -/
def s_TurnedBy_b0 (x16 : (List Int)) (x20 : (List Int)) (v8 : Int) (s1 : (List Int)) : Option ((List Int) ⊕ (((List Int)) ⊕ ((List Int)))) :=
  Option.bind (idx x16 v8) fun x29 =>
  Option.bind (idx x20 v8) fun x33 =>
  Option.bind (bif (x29 != x33) then
    Option.bind (appS 8 s1 ([v8] : List Int)) fun x39 =>
    some (x39 : (List Int))
  else
    some (s1 : (List Int))) fun q4 =>
  some (.inr (.inr (q4 : (List Int))))
def s_TurnedBy (p0 : Parity) (p1 : Edit) : Option ((List Int)) :=
  Option.bind (s_EditOk p0 p1) fun x12 =>
  bif (!x12) then
    some (([] : List Int) : (List Int))
  else
    Option.bind (s_l7Won p0) fun x16 =>
    Option.bind (s_l32Do p0 p1) fun x19 =>
    Option.bind (s_l7Won x19) fun x20 =>
    Option.bind (cntM (s_TurnedBy_b0 x16 x20) x16.length 0 (([] : List Int) : (List Int))) fun q2 =>
    aft (fun r => some r) (fun s3 =>
      some (s3 : (List Int))) q2

/- loop.example/g00869/impl.isSet -/
def i_isSet_b0 (p0 : (List Int)) (p1 : Int) (v9 : Int) (s1 : Unit) : Option (Bool ⊕ ((Unit) ⊕ (Unit))) :=
  Option.bind (idx p0 v9) fun x12 =>
  Option.bind (bif decide (x12 < 0) then
  some true
  else
  some (decide (p1 ≤ x12))) fun p20 =>
  Option.bind (bif p20 then
  some true
  else
  Option.bind (bif decide (0 < v9) then
  Option.bind (idx p0 (IntKind.i64.wrap (v9 - 1))) fun x29 =>
  some (decide (x12 ≤ x29))
  else
  some false) fun p32 =>
  some p32) fun p33 =>
  bif p33 then
    some (.inl (false : Bool))
  else
    some (.inr (.inr ()))
def i_isSet (p0 : (List Int)) (p1 : Int) : Option (Bool) :=
  Option.bind (cntM (i_isSet_b0 p0 p1) p0.length 0 ()) fun q2 =>
  aft (fun r => some r) (fun s3 =>
    some (true : Bool)) q2

/- loop.example/g00869/impl.ArenaOk -/
def i_ArenaOk_b0 (p0 : Arena) (v25 : Int) (s1 : Unit) : Option (Bool ⊕ ((Unit) ⊕ (Unit))) :=
  Option.bind (idx p0.Next v25) fun x28 =>
  Option.bind (idx p0.Owner v25) fun x33 =>
  Option.bind (bif decide (x33 < 0) then
  some true
  else
  Option.bind (idx p0.Owner v25) fun x40 =>
  some (decide (1 < x40))) fun p43 =>
  Option.bind (bif p43 then
  some true
  else
  some (decide ((x28.length : Int) < 1))) fun p48 =>
  Option.bind (bif p48 then
  some true
  else
  some (decide (16 < (x28.length : Int)))) fun p53 =>
  Option.bind (bif p53 then
  some true
  else
  Option.bind (i_isSet x28 (p0.Owner.length : Int)) fun x57 =>
  some (!x57)) fun p59 =>
  bif p59 then
    some (.inl (false : Bool))
  else
    some (.inr (.inr ()))
def i_ArenaOk (p0 : Arena) : Option (Bool) :=
  Option.bind (bif decide ((p0.Owner.length : Int) < 1) then
  some true
  else
  some (decide (256 < (p0.Owner.length : Int)))) fun p14 =>
  Option.bind (bif p14 then
  some true
  else
  some ((p0.Next.length : Int) != (p0.Owner.length : Int))) fun p21 =>
  bif p21 then
    some (false : Bool)
  else
    Option.bind (cntM (i_ArenaOk_b0 p0) p0.Next.length 0 ()) fun q2 =>
    aft (fun r => some r) (fun s3 =>
      some (true : Bool)) q2

/- loop.example/g00869/impl.ParityOk -/
def i_ParityOk_b0 (p0 : Parity) (v22 : Int) (s1 : Unit) : Option (Bool ⊕ ((Unit) ⊕ (Unit))) :=
  Option.bind (idx p0.Prio v22) fun x24 =>
  Option.bind (bif decide (x24 < 0) then
  some true
  else
  some (decide (40 < x24))) fun p31 =>
  bif p31 then
    some (.inl (false : Bool))
  else
    some (.inr (.inr ()))
def i_ParityOk (p0 : Parity) : Option (Bool) :=
  Option.bind (i_ArenaOk p0.Arena) fun x7 =>
  Option.bind (bif (!x7) then
  some true
  else
  some ((p0.Prio.length : Int) != (p0.Arena.Owner.length : Int))) fun p18 =>
  bif p18 then
    some (false : Bool)
  else
    Option.bind (cntM (i_ParityOk_b0 p0) p0.Prio.length 0 ()) fun q2 =>
    aft (fun r => some r) (fun s3 =>
      some (true : Bool)) q2

/- loop.example/g00869/impl.size -/

def i_size (p0 : Arena) : Option (Int) :=
  some ((p0.Owner.length : Int) : Int)

/- loop.example/g00869/impl.hasVertex -/

def i_hasVertex (p0 : Arena) (p1 : Int) : Option (Bool) :=
  Option.bind (bif decide (0 ≤ p1) then
  Option.bind (i_size p0) fun x10 =>
  some (decide (p1 < x10))
  else
  some false) fun p12 =>
  some (p12 : Bool)

/- loop.example/g00869/impl.isPlayer -/

def i_isPlayer (p0 : Int) : Option (Bool) :=
  Option.bind (bif (p0 == 0) then
  some true
  else
  some (p0 == 1)) fun p8 =>
  some (p8 : Bool)

/- slices.Index[[]int64,int64] -/
def slices_Index_I_int64_b0 (p0 : (List Int)) (p1 : Int) (v8 : Int) (s1 : Unit) : Option (Int ⊕ ((Unit) ⊕ (Unit))) :=
  Option.bind (idx p0 v8) fun x14 =>
  bif (p1 == x14) then
    some (.inl (v8 : Int))
  else
    some (.inr (.inr ()))
def slices_Index_I_int64 (p0 : (List Int)) (p1 : Int) : Option (Int) :=
  Option.bind (cntM (slices_Index_I_int64_b0 p0 p1) p0.length 0 ()) fun q2 =>
  aft (fun r => some r) (fun s3 =>
    some ((-1) : Int)) q2

/- slices.Contains[[]int64,int64] -/

def slices_Contains_I_int64 (p0 : (List Int)) (p1 : Int) : Option (Bool) :=
  Option.bind (slices_Index_I_int64 p0 p1) fun x7 =>
  some (decide (0 ≤ x7) : Bool)

/- loop.example/g00869/impl.isEdit -/

def i_isEdit (p0 : Parity) (p1 : Edit) : Option (Bool) :=
  Option.bind (i_hasVertex p0.Arena p1.V) fun x10 =>
  bif (!x10) then
    some (false : Bool)
  else
    Option.bind (idx p0.Arena.Next p1.V) fun x17 =>
    bif (p1.Kind == 1) then
      Option.bind (bif decide (0 ≤ p1.N) then
      some (decide (p1.N ≤ 40))
      else
      some false) fun p30 =>
      some (p30 : Bool)
    else
      bif (p1.Kind == 2) then
        Option.bind (i_isPlayer p1.N) fun x35 =>
        some (x35 : Bool)
      else
        bif (p1.Kind == 3) then
          Option.bind (i_hasVertex p0.Arena p1.N) fun x42 =>
          Option.bind (bif x42 then
          Option.bind (slices_Contains_I_int64 x17 p1.N) fun x47 =>
          some (!x47)
          else
          some false) fun p49 =>
          Option.bind (bif p49 then
          some (decide ((x17.length : Int) < 16))
          else
          some false) fun p54 =>
          some (p54 : Bool)
        else
          bif (p1.Kind == 4) then
            Option.bind (slices_Contains_I_int64 x17 p1.N) fun x60 =>
            Option.bind (bif x60 then
            some (decide (1 < (x17.length : Int)))
            else
            some false) fun p65 =>
            some (p65 : Bool)
          else
            some (false : Bool)

/- loop.example/g00869/impl.AllOf -/
def i_AllOf_b0  (v4 : Int) (s1 : (List Int)) : Option ((List Int) ⊕ (((List Int)) ⊕ ((List Int)))) :=
  Option.bind (appS 8 s1 ([v4] : List Int)) fun x20 =>
  some (.inr (.inr (x20 : (List Int))))
def i_AllOf (p0 : Int) : Option ((List Int)) :=
  Option.bind (bif decide (p0 < 0) then
  some true
  else
  some (decide (256 < p0))) fun p10 =>
  bif p10 then
    some (([] : List Int) : (List Int))
  else
    Option.bind (rng p0) fun _ =>
    Option.bind (cntM i_AllOf_b0 (Int.toNat (p0 - 0)) 0 (([] : List Int) : (List Int))) fun q2 =>
    aft (fun r => some r) (fun s3 =>
      some (s3 : (List Int))) q2

/- loop.example/g00869/impl.allOf -/

def i_allOf (p0 : Arena) : Option ((List Int)) :=
  Option.bind (i_size p0) fun x4 =>
  Option.bind (i_AllOf x4) fun x5 =>
  some (x5 : (List Int))

/- loop.example/g00869/impl.predsOf -/
def i_predsOf_b2 (v15 : Int) (x18 : (List Int)) (v22 : Int) (s4 : (List (List Int))) : Option ((List (List Int)) ⊕ (((List (List Int))) ⊕ ((List (List Int))))) :=
  Option.bind (idx x18 v22) fun x24 =>
  Option.bind (idx s4 x24) fun x30 =>
  Option.bind (appS 8 x30 ([v15] : List Int)) fun x34 =>
  Option.bind (idx s4 x24) fun x35 =>
  Option.bind (setI s4 x24 (x34 : (List Int))) fun y47 =>
  some (.inr (.inr (y47 : (List (List Int)))))
def i_predsOf_b0 (p0 : Arena) (v15 : Int) (s1 : (List (List Int))) : Option ((List (List Int)) ⊕ (((List (List Int))) ⊕ ((List (List Int))))) :=
  Option.bind (idx p0.Next v15) fun x18 =>
  Option.bind (cntM (i_predsOf_b2 v15 x18) x18.length 0 (s1 : (List (List Int)))) fun q5 =>
  aft (fun r => some (.inl r)) (fun s6 =>
    some (.inr (.inr (s6 : (List (List Int)))))) q5
def i_predsOf (p0 : Arena) : Option ((List (List Int))) :=
  Option.bind (mkS 24 (p0.Owner.length : Int) (([] : List Int) : (List Int))) fun x11 =>
  Option.bind (cntM (i_predsOf_b0 p0) p0.Next.length 0 (x11 : (List (List Int)))) fun q2 =>
  aft (fun r => some r) (fun s3 =>
    some (s3 : (List (List Int)))) q2

/- loop.example/g00869/impl.markOf -/
def i_markOf_b0 (p1 : (List Int)) (v14 : Int) (s1 : (List Bool)) : Option ((List Bool) ⊕ (((List Bool)) ⊕ ((List Bool)))) :=
  Option.bind (idx p1 v14) fun x16 =>
  Option.bind (idx s1 x16) fun x20 =>
  Option.bind (setI s1 x16 true) fun y49 =>
  some (.inr (.inr (y49 : (List Bool))))
def i_markOf (p0 : Arena) (p1 : (List Int)) : Option ((List Bool)) :=
  Option.bind (mkS 1 (p0.Owner.length : Int) (false : Bool)) fun x11 =>
  Option.bind (cntM (i_markOf_b0 p1) p1.length 0 (x11 : (List Bool))) fun q2 =>
  aft (fun r => some r) (fun s3 =>
    some (s3 : (List Bool))) q2

/- loop.example/g00869/impl.listOf -/
def i_listOf_b0 (p0 : (List Bool)) (v9 : Int) (s1 : (List Int)) : Option ((List Int) ⊕ (((List Int)) ⊕ ((List Int)))) :=
  Option.bind (idx p0 v9) fun x12 =>
  Option.bind (bif x12 then
    Option.bind (appS 8 s1 ([v9] : List Int)) fun x18 =>
    some (x18 : (List Int))
  else
    some (s1 : (List Int))) fun q4 =>
  some (.inr (.inr (q4 : (List Int))))
def i_listOf (p0 : (List Bool)) : Option ((List Int)) :=
  Option.bind (cntM (i_listOf_b0 p0) p0.length 0 (([] : List Int) : (List Int))) fun q2 =>
  aft (fun r => some r) (fun s3 =>
    some (s3 : (List Int))) q2

/- loop.example/g00869/impl.topIn -/
def i_topIn_b0 (p0 : Parity) (p1 : (List Int)) (v10 : Int) (s1 : Int) : Option (Int ⊕ ((Int) ⊕ (Int))) :=
  Option.bind (idx p1 v10) fun x12 =>
  Option.bind (idx p0.Prio x12) fun x18 =>
  some (.inr (.inr ((if s1 < x18 then x18 else s1) : Int)))
def i_topIn (p0 : Parity) (p1 : (List Int)) : Option (Int) :=
  Option.bind (cntM (i_topIn_b0 p0 p1) p1.length 0 ((-1) : Int)) fun q2 =>
  aft (fun r => some r) (fun s3 =>
    some (s3 : Int)) q2

/- (*loop.example/g00869/impl.solver).pull -/
def i_solver_pull_b4 (p2 : (List Bool)) (x43 : Int) (x79 : (List Int)) (v82 : Int) (s8 : (List Int)) : Option ((List Bool) ⊕ (((List Int)) ⊕ ((List Int)))) :=
  Option.bind (idx x79 v82) fun x84 =>
  Option.bind (idx p2 x84) fun x88 =>
  Option.bind (bif x88 then
    Option.bind (idx s8 x43) fun x92 =>
    Option.bind (idx s8 x43) fun x95 =>
    Option.bind (setI s8 x43 (IntKind.i64.wrap (x92 + 1))) fun y57 =>
    some (y57 : (List Int))
  else
    some (s8 : (List Int))) fun q11 =>
  some (.inr (.inr (q11 : (List Int))))
def i_solver_pull_b2 (p0 : solver) (p1 : Int) (p2 : (List Bool)) (x38 : (List Int)) (v41 : Int) (s4 : (List Int) × (List Bool) × (List Int)) : Option ((List Bool) ⊕ (((List Int) × (List Bool) × (List Int)) ⊕ ((List Int) × (List Bool) × (List Int)))) :=
  Option.bind (idx x38 v41) fun x43 =>
  Option.bind (idx s4.2.1 x43) fun x47 =>
  Option.bind (bif x47 then
  some true
  else
  Option.bind (idx p2 x43) fun x52 =>
  some (!x52)) fun p55 =>
  bif p55 then
    some (.inr (.inr ((s4.1 : (List Int)), (s4.2.1 : (List Bool)), (s4.2.2 : (List Int)))))
  else
    Option.bind (idx p0.game.Arena.Owner x43) fun x63 =>
    bif (x63 != p1) then
      Option.bind (idx s4.2.2 x43) fun x69 =>
      Option.bind (bif (x69 == 0) then
        Option.bind (idx p0.game.Arena.Next x43) fun x79 =>
        Option.bind (cntM (i_solver_pull_b4 p2 x43 x79) x79.length 0 (s4.2.2 : (List Int))) fun q9 =>
        aft (fun r => none) (fun s10 =>
          some (s10 : (List Int))) q9
      else
        some (s4.2.2 : (List Int))) fun q7 =>
      Option.bind (idx q7 x43) fun x99 =>
      Option.bind (idx q7 x43) fun x102 =>
      Option.bind (setI q7 x43 (IntKind.i64.wrap (x99 - 1))) fun y58 =>
      Option.bind (idx y58 x43) fun x105 =>
      bif decide (0 < x105) then
        some (.inr (.inr ((s4.1 : (List Int)), (s4.2.1 : (List Bool)), (y58 : (List Int)))))
      else
        Option.bind (idx s4.2.1 x43) fun x110 =>
        Option.bind (setI s4.2.1 x43 true) fun y59 =>
        Option.bind (appS 8 s4.1 ([x43] : List Int)) fun x114 =>
        some (.inr (.inr ((x114 : (List Int)), (y59 : (List Bool)), (y58 : (List Int)))))
    else
      Option.bind (idx s4.2.1 x43) fun x110 =>
      Option.bind (setI s4.2.1 x43 true) fun y59 =>
      Option.bind (appS 8 s4.1 ([x43] : List Int)) fun x114 =>
      some (.inr (.inr ((x114 : (List Int)), (y59 : (List Bool)), (s4.2.2 : (List Int)))))
def i_solver_pull_b0 (p0 : solver) (p1 : Int) (p2 : (List Bool)) (s1 : (List Int) × (List Bool) × (List Int)) : Option ((List Bool) ⊕ (((List Int) × (List Bool) × (List Int)) ⊕ ((List Int) × (List Bool) × (List Int)))) :=
  bif decide (0 < (s1.1.length : Int)) then
    Option.bind (idx s1.1 0) fun x29 =>
    Option.bind (subS s1.1 1 (s1.1.length : Int)) fun x32 =>
    Option.bind (idx p0.preds x29) fun x38 =>
    Option.bind (cntM (i_solver_pull_b2 p0 p1 p2 x38) x38.length 0 ((x32 : (List Int)), (s1.2.1 : (List Bool)), (s1.2.2 : (List Int)))) fun q5 =>
    aft (fun r => some (.inl r)) (fun s6 =>
      some (.inr (.inr ((s6.1 : (List Int)), (s6.2.1 : (List Bool)), (s6.2.2 : (List Int)))))) q5
  else
    some (.inr (.inl ((s1.1 : (List Int)), (s1.2.1 : (List Bool)), (s1.2.2 : (List Int)))))
def i_solver_pull (p0 : solver) (p1 : Int) (p2 : (List Bool)) (p3 : (List Bool)) : Option ((List Bool)) :=
  Option.bind (appS 1 ([] : List Bool) p3) fun x19 =>
  Option.bind (mkS 8 (p2.length : Int) (0 : Int)) fun x22 =>
  Option.bind (i_listOf p3) fun x24 =>
  Option.bind (whileM (i_solver_pull_b0 p0 p1 p2) (2 ^ 64) ((x24 : (List Int)), (x19 : (List Bool)), (x22 : (List Int)))) fun q2 =>
  aft (fun r => some r) (fun s3 =>
    some (s3.2.1 : (List Bool))) q2

/- loop.example/g00869/impl.without -/
def i_without_b0 (p0 : (List Bool)) (p1 : (List Bool)) (v12 : Int) (s1 : (List Bool)) : Option ((List Bool) ⊕ (((List Bool)) ⊕ ((List Bool)))) :=
  Option.bind (idx p0 v12) fun x19 =>
  Option.bind (bif x19 then
  Option.bind (idx p1 v12) fun x24 =>
  some (!x24)
  else
  some false) fun p27 =>
  Option.bind (idx s1 v12) fun x28 =>
  Option.bind (setI s1 v12 p27) fun y62 =>
  some (.inr (.inr (y62 : (List Bool))))
def i_without (p0 : (List Bool)) (p1 : (List Bool)) : Option ((List Bool)) :=
  Option.bind (mkS 1 (p0.length : Int) (false : Bool)) fun x9 =>
  Option.bind (cntM (i_without_b0 p0 p1) p0.length 0 (x9 : (List Bool))) fun q2 =>
  aft (fun r => some r) (fun s3 =>
    some (s3 : (List Bool))) q2

/- slices.Index[[]bool,bool] -/
def slices_Index_bool_bool_b0 (p0 : (List Bool)) (p1 : Bool) (v8 : Int) (s1 : Unit) : Option (Int ⊕ ((Unit) ⊕ (Unit))) :=
  Option.bind (idx p0 v8) fun x14 =>
  bif (p1 == x14) then
    some (.inl (v8 : Int))
  else
    some (.inr (.inr ()))
def slices_Index_bool_bool (p0 : (List Bool)) (p1 : Bool) : Option (Int) :=
  Option.bind (cntM (slices_Index_bool_bool_b0 p0 p1) p0.length 0 ()) fun q2 =>
  aft (fun r => some r) (fun s3 =>
    some ((-1) : Int)) q2

/- slices.Contains[[]bool,bool] -/

def slices_Contains_bool_bool (p0 : (List Bool)) (p1 : Bool) : Option (Bool) :=
  Option.bind (slices_Index_bool_bool p0 p1) fun x7 =>
  some (decide (0 ≤ x7) : Bool)

/- (*loop.example/g00869/impl.solver).won -/
def i_solver_won_b2 (p0 : solver) (x27 : Int) (s1 : (List Bool)) (v38 : Int) (s4 : (List Bool)) : Option (((List Bool) × Int) ⊕ (((List Bool)) ⊕ ((List Bool)))) :=
  Option.bind (idx s1 v38) fun x45 =>
  Option.bind (bif x45 then
  Option.bind (idx p0.game.Prio v38) fun x54 =>
  some (x54 == x27)
  else
  some false) fun p58 =>
  Option.bind (idx s4 v38) fun x59 =>
  Option.bind (setI s4 v38 p58) fun y54 =>
  some (.inr (.inr (y54 : (List Bool))))
def i_solver_won_b0 (rc : solver → (List Bool) → Option ((List Bool) × Int)) (p0 : solver) (p1 : (List Bool)) (x27 : Int) (s1 : (List Bool)) : Option (((List Bool) × Int) ⊕ (((List Bool)) ⊕ ((List Bool)))) :=
  Option.bind (mkS 1 (p1.length : Int) (false : Bool)) fun x35 =>
  Option.bind (cntM (i_solver_won_b2 p0 x27 s1) x35.length 0 (x35 : (List Bool))) fun q5 =>
  aft (fun r => some (.inl r)) (fun s6 =>
    Option.bind (i_solver_pull p0 (Int.tmod x27 2) s1 s6) fun x66 =>
    Option.bind (i_without s1 x66) fun x67 =>
    Option.bind (rc p0 x67) fun x71 =>
    Option.bind (bif (x71.2 == (Int.tmod x27 2)) then
      Option.bind (i_without x67 x71.1) fun x80 =>
      some (x80 : (List Bool))
    else
      some (x71.1 : (List Bool))) fun q7 =>
    Option.bind (slices_Contains_bool_bool q7 true) fun x82 =>
    bif (!x82) then
      some (.inl ((s1 : (List Bool)), ((Int.tmod x27 2) : Int)))
    else
      Option.bind (i_solver_pull p0 (IntKind.i64.wrap (1 - (Int.tmod x27 2))) s1 q7) fun x92 =>
      Option.bind (i_without s1 x92) fun x93 =>
      Option.bind (slices_Contains_bool_bool x93 true) fun x95 =>
      bif (!x95) then
        some (.inl ((x93 : (List Bool)), ((Int.tmod x27 2) : Int)))
      else
        some (.inr (.inr (x93 : (List Bool))))) q5
def i_solver_won_s (rc : solver → (List Bool) → Option ((List Bool) × Int)) (p0 : solver) (p1 : (List Bool)) : Option ((List Bool) × Int) :=
  Option.bind (i_listOf p1) fun x17 =>
  bif ((x17.length : Int) == 0) then
    some ((p1 : (List Bool)), (0 : Int))
  else
    Option.bind (i_topIn p0.game x17) fun x27 =>
    Option.bind (appS 1 ([] : List Bool) p1) fun x32 =>
    Option.bind (whileM (i_solver_won_b0 rc p0 p1 x27) (2 ^ 64) (x32 : (List Bool))) fun q2 =>
    aft (fun r => some r) (fun s3 =>
      none) q2
def i_solver_won : Nat → solver → (List Bool) → Option ((List Bool) × Int)
  | 0 => fun _ _ => none
  | n + 1 => i_solver_won_s (i_solver_won n)

/- loop.example/g00869/impl.wonIn -/

def i_wonIn (p0 : Parity) (p1 : (List Int)) : Option ((List Int) × (List Int)) :=
  Option.bind (i_predsOf p0.Arena) fun x13 =>
  Option.bind (i_markOf p0.Arena p1) fun x19 =>
  Option.bind (i_solver_won (2 ^ 64) (⟨p0, x13⟩ : solver) x19) fun x23 =>
  bif (x23.2 == 0) then
    Option.bind (i_listOf x23.1) fun x29 =>
    Option.bind (i_without x19 x23.1) fun x32 =>
    Option.bind (i_listOf x32) fun x33 =>
    some ((x29 : (List Int)), (x33 : (List Int)))
  else
    Option.bind (i_without x19 x23.1) fun x36 =>
    Option.bind (i_listOf x36) fun x37 =>
    Option.bind (i_listOf x23.1) fun x39 =>
    some ((x37 : (List Int)), (x39 : (List Int)))

/- loop.example/g00869/impl.winners -/
def i_winners_b0 (x17 : (List Int) × (List Int)) (v22 : Int) (s1 : (List Int)) : Option ((List Int) ⊕ (((List Int)) ⊕ ((List Int)))) :=
  Option.bind (idx x17.2 v22) fun x24 =>
  Option.bind (idx s1 x24) fun x28 =>
  Option.bind (setI s1 x24 1) fun y63 =>
  some (.inr (.inr (y63 : (List Int))))
def i_winners (p0 : Parity) : Option ((List Int)) :=
  Option.bind (mkS 8 (p0.Prio.length : Int) (0 : Int)) fun x11 =>
  Option.bind (i_allOf p0.Arena) fun x16 =>
  Option.bind (i_wonIn p0 x16) fun x17 =>
  Option.bind (cntM (i_winners_b0 x17) x17.2.length 0 (x11 : (List Int))) fun q2 =>
  aft (fun r => some r) (fun s3 =>
    some (s3 : (List Int))) q2

/- loop.example/g00869/impl.copyLists -/
def i_copyLists_b0 (p0 : (List (List Int))) (v9 : Int) (s1 : (List (List Int))) : Option ((List (List Int)) ⊕ (((List (List Int))) ⊕ ((List (List Int))))) :=
  Option.bind (idx p0 v9) fun x11 =>
  Option.bind (appS 8 ([] : List Int) x11) fun x16 =>
  Option.bind (appS 24 s1 ([x16] : List (List Int))) fun x18 =>
  some (.inr (.inr (x18 : (List (List Int)))))
def i_copyLists (p0 : (List (List Int))) : Option ((List (List Int))) :=
  Option.bind (cntM (i_copyLists_b0 p0) p0.length 0 (([] : List (List Int)) : (List (List Int)))) fun q2 =>
  aft (fun r => some r) (fun s3 =>
    some (s3 : (List (List Int)))) q2

/- loop.example/g00869/impl.copyArena -/

def i_copyArena (p0 : Arena) : Option (Arena) :=
  Option.bind (appS 8 ([] : List Int) p0.Owner) fun x6 =>
  Option.bind (i_copyLists p0.Next) fun x9 =>
  some ((⟨x6, x9⟩ : Arena) : Arena)

/- loop.example/g00869/impl.copyParity -/

def i_copyParity (p0 : Parity) : Option (Parity) :=
  Option.bind (i_copyArena p0.Arena) fun x5 =>
  Option.bind (appS 8 ([] : List Int) p0.Prio) fun x9 =>
  some ((⟨(⟨x5.Owner, x5.Next⟩ : Arena), x9⟩ : Parity) : Parity)

/- cmp.isNaN[int64] -/

def cmp_isNaN_int64 (p0 : Int) : Option (Bool) :=
  some ((p0 != p0) : Bool)

/- cmp.Less[int64] -/

def cmp_Less_int64 (p0 : Int) (p1 : Int) : Option (Bool) :=
  Option.bind (cmp_isNaN_int64 p0) fun x6 =>
  Option.bind (bif x6 then
  Option.bind (cmp_isNaN_int64 p1) fun x9 =>
  some (!x9)
  else
  some false) fun p11 =>
  Option.bind (bif p11 then
  some true
  else
  some (decide (p0 < p1))) fun p16 =>
  some (p16 : Bool)

/- slices.isNaN[int64] -/

def slices_isNaN_int64 (p0 : Int) : Option (Bool) :=
  some ((p0 != p0) : Bool)

/- slices.BinarySearch[[]int64,int64] -/
def slices_BinarySearch_I_int64_b0 (p0 : (List Int)) (p1 : Int) (s1 : Int × Int) : Option ((Int × Bool) ⊕ ((Int × Int) ⊕ (Int × Int))) :=
  bif decide (s1.1 < s1.2) then
    Option.bind (idx p0 (IntKind.i64.wrap (Int.fdiv (IntKind.u64.wrap (IntKind.i64.wrap (s1.1 + s1.2))) (2 ^ (min (Int.toNat 1) (IntKind.bits IntKind.u64)))))) fun x24 =>
    Option.bind (cmp_Less_int64 x24 p1) fun x27 =>
    Option.bind (bif x27 then
      some (((IntKind.i64.wrap ((IntKind.i64.wrap (Int.fdiv (IntKind.u64.wrap (IntKind.i64.wrap (s1.1 + s1.2))) (2 ^ (min (Int.toNat 1) (IntKind.bits IntKind.u64))))) + 1)) : Int), (s1.2 : Int))
    else
      some ((s1.1 : Int), ((IntKind.i64.wrap (Int.fdiv (IntKind.u64.wrap (IntKind.i64.wrap (s1.1 + s1.2))) (2 ^ (min (Int.toNat 1) (IntKind.bits IntKind.u64))))) : Int))) fun q4 =>
    some (.inr (.inr ((q4.1 : Int), (q4.2 : Int))))
  else
    some (.inr (.inl ((s1.1 : Int), (s1.2 : Int))))
def slices_BinarySearch_I_int64 (p0 : (List Int)) (p1 : Int) : Option (Int × Bool) :=
  Option.bind (whileM (slices_BinarySearch_I_int64_b0 p0 p1) (2 ^ 64) ((0 : Int), ((p0.length : Int) : Int))) fun q2 =>
  aft (fun r => some r) (fun s3 =>
    Option.bind (bif decide (s3.1 < (p0.length : Int)) then
    Option.bind (idx p0 s3.1) fun x38 =>
    Option.bind (bif (x38 == p1) then
    some true
    else
    Option.bind (idx p0 s3.1) fun x45 =>
    Option.bind (slices_isNaN_int64 x45) fun x47 =>
    Option.bind (bif x47 then
    Option.bind (slices_isNaN_int64 p1) fun x50 =>
    some x50
    else
    some false) fun p51 =>
    some p51) fun p52 =>
    some p52
    else
    some false) fun p53 =>
    some ((s3.1 : Int), (p53 : Bool))) q2

/- loop.example/g00869/impl.lessOf -/
def i_lessOf_b0 (p0 : (List Int)) (p1 : (List Int)) (v13 : Int) (s1 : (List Int)) : Option ((List Int) ⊕ (((List Int)) ⊕ ((List Int)))) :=
  Option.bind (idx p0 v13) fun x15 =>
  Option.bind (slices_BinarySearch_I_int64 p1 x15) fun x20 =>
  Option.bind (bif (!x20.2) then
    Option.bind (appS 8 s1 ([x15] : List Int)) fun x28 =>
    some (x28 : (List Int))
  else
    some (s1 : (List Int))) fun q4 =>
  some (.inr (.inr (q4 : (List Int))))
def i_lessOf (p0 : (List Int)) (p1 : (List Int)) : Option ((List Int)) :=
  Option.bind (cntM (i_lessOf_b0 p0 p1) p0.length 0 (([] : List Int) : (List Int))) fun q2 =>
  aft (fun r => some r) (fun s3 =>
    some (s3 : (List Int))) q2

/- slices.Sort[[]int64,int64] -/
def slices_Sort_I_int64 (p0 : (List Int)) : Option (List Int) :=
  if 0 < p0.length ∧ p0.length < 4611686018427387904 then some (p0.mergeSort fun x y => decide (x ≤ y)) else none


/- loop.example/g00869/impl.bothOf -/

def i_bothOf (p0 : (List Int)) (p1 : (List Int)) : Option ((List Int)) :=
  Option.bind (appS 8 ([] : List Int) p0) fun x8 =>
  Option.bind (i_lessOf p1 p0) fun x11 =>
  Option.bind (appS 8 x8 x11) fun x12 =>
  Option.bind (slices_Sort_I_int64 x12) fun x14 =>
  some (x14 : (List Int))

/- loop.example/g00869/impl.edited -/

def i_edited (p0 : Parity) (p1 : Edit) : Option (Parity) :=
  Option.bind (i_copyParity p0) fun x7 =>
  Option.bind (bif (p1.Kind == 1) then
    Option.bind (idx x7.Prio p1.V) fun x35 =>
    Option.bind (setI x7.Prio p1.V p1.N) fun y69 =>
    some ((x7.Arena.Owner : (List Int)), (x7.Arena.Next : (List (List Int))), (y69 : (List Int)))
  else
    Option.bind (bif (p1.Kind == 2) then
      Option.bind (idx x7.Arena.Owner p1.V) fun x45 =>
      Option.bind (setI x7.Arena.Owner p1.V p1.N) fun y70 =>
      some ((y70 : (List Int)), (x7.Arena.Next : (List (List Int))))
    else
      Option.bind (bif (p1.Kind == 3) then
        Option.bind (idx x7.Arena.Next p1.V) fun x58 =>
        Option.bind (i_bothOf x58 ([p1.N] : List Int)) fun x63 =>
        Option.bind (idx x7.Arena.Next p1.V) fun x64 =>
        Option.bind (setI x7.Arena.Next p1.V (x63 : (List Int))) fun y75 =>
        some (y75 : (List (List Int)))
      else
        Option.bind (idx x7.Arena.Next p1.V) fun x20 =>
        Option.bind (i_lessOf x20 ([p1.N] : List Int)) fun x25 =>
        Option.bind (idx x7.Arena.Next p1.V) fun x26 =>
        Option.bind (setI x7.Arena.Next p1.V (x25 : (List Int))) fun y77 =>
        some (y77 : (List (List Int)))) fun q3 =>
      some ((x7.Arena.Owner : (List Int)), (q3 : (List (List Int))))) fun q2 =>
    some ((q2.1 : (List Int)), (q2.2 : (List (List Int))), (x7.Prio : (List Int)))) fun q1 =>
  some ((⟨(⟨q1.1, q1.2.1⟩ : Arena), q1.2.2⟩ : Parity) : Parity)

/- loop.example/g00869/impl.TurnedBy -/
def i_TurnedBy_b0 (x19 : (List Int)) (x23 : (List Int)) (v27 : Int) (s1 : (List Int)) : Option ((List Int) ⊕ (((List Int)) ⊕ ((List Int)))) :=
  Option.bind (idx x19 v27) fun x32 =>
  Option.bind (idx x23 v27) fun x36 =>
  Option.bind (bif (x32 != x36) then
    Option.bind (appS 8 s1 ([v27] : List Int)) fun x42 =>
    some (x42 : (List Int))
  else
    some (s1 : (List Int))) fun q4 =>
  some (.inr (.inr (q4 : (List Int))))
def i_TurnedBy (p0 : Parity) (p1 : Edit) : Option ((List Int)) :=
  Option.bind (i_ParityOk p0) fun x10 =>
  Option.bind (bif (!x10) then
  some true
  else
  Option.bind (i_isEdit p0 p1) fun x15 =>
  some (!x15)) fun p17 =>
  bif p17 then
    some (([] : List Int) : (List Int))
  else
    Option.bind (i_winners p0) fun x19 =>
    Option.bind (i_edited p0 p1) fun x22 =>
    Option.bind (i_winners x22) fun x23 =>
    Option.bind (cntM (i_TurnedBy_b0 x19 x23) x19.length 0 (([] : List Int) : (List Int))) fun q2 =>
    aft (fun r => some r) (fun s3 =>
      some (s3 : (List Int))) q2

/- loop.example/g00869/laws.eqInt64S -/
def l_eqInt64S_b0 (p0 : (List Int)) (p1 : (List Int)) (v5 : Int) (s1 : Unit) : Option (Bool ⊕ ((Unit) ⊕ (Unit))) :=
  Option.bind (idx p0 v5) fun x19 =>
  Option.bind (idx p1 v5) fun x23 =>
  bif (x19 != x23) then
    some (.inl (false : Bool))
  else
    some (.inr (.inr ()))
def l_eqInt64S (p0 : (List Int)) (p1 : (List Int)) : Option (Bool) :=
  bif ((p0.length : Int) != (p1.length : Int)) then
    some (false : Bool)
  else
    Option.bind (cntM (l_eqInt64S_b0 p0 p1) p0.length 0 ()) fun q2 =>
    aft (fun r => some r) (fun s3 =>
      some (true : Bool)) q2

/- loop.example/g00869/laws.eqInt64SS -/
def l_eqInt64SS_b0 (p0 : (List (List Int))) (p1 : (List (List Int))) (v5 : Int) (s1 : Unit) : Option (Bool ⊕ ((Unit) ⊕ (Unit))) :=
  Option.bind (idx p0 v5) fun x19 =>
  Option.bind (idx p1 v5) fun x23 =>
  Option.bind (l_eqInt64S x19 x23) fun x25 =>
  bif (!x25) then
    some (.inl (false : Bool))
  else
    some (.inr (.inr ()))
def l_eqInt64SS (p0 : (List (List Int))) (p1 : (List (List Int))) : Option (Bool) :=
  bif ((p0.length : Int) != (p1.length : Int)) then
    some (false : Bool)
  else
    Option.bind (cntM (l_eqInt64SS_b0 p0 p1) p0.length 0 ()) fun q2 =>
    aft (fun r => some r) (fun s3 =>
      some (true : Bool)) q2

/- loop.example/g00869/laws.eqArena -/

def l_eqArena (p0 : Arena) (p1 : Arena) : Option (Bool) :=
  Option.bind (l_eqInt64S p0.Owner p1.Owner) fun x9 =>
  bif (!x9) then
    some (false : Bool)
  else
    Option.bind (l_eqInt64SS p0.Next p1.Next) fun x15 =>
    bif (!x15) then
      some (false : Bool)
    else
      some (true : Bool)

/- loop.example/g00869/laws.eqParity -/

def l_eqParity (p0 : Parity) (p1 : Parity) : Option (Bool) :=
  Option.bind (l_eqArena p0.Arena p1.Arena) fun x9 =>
  bif (!x9) then
    some (false : Bool)
  else
    Option.bind (l_eqInt64S p0.Prio p1.Prio) fun x15 =>
    bif (!x15) then
      some (false : Bool)
    else
      some (true : Bool)

/- loop.example/g00869/laws.markInt64S -/
def l_markInt64S_b0  (v5 : Int) (s1 : Int × (List Int)) : Option ((Int × (List Int)) ⊕ ((Int × (List Int)) ⊕ (Int × (List Int)))) :=
  Option.bind (idx s1.2 v5) fun x15 =>
  Option.bind (setI s1.2 v5 s1.1) fun y80 =>
  some (.inr (.inr (((IntKind.i64.wrap (s1.1 + 1)) : Int), (y80 : (List Int)))))
def l_markInt64S (p0 : (List Int)) (p1 : Int) : Option (Int × (List Int)) :=
  Option.bind (cntM l_markInt64S_b0 p0.length 0 ((p1 : Int), (p0 : (List Int)))) fun q2 =>
  aft (fun r => some r) (fun s3 =>
    some ((s3.1 : Int), (s3.2 : (List Int)))) q2

/- loop.example/g00869/laws.markInt64SS -/
def l_markInt64SS_b0  (v5 : Int) (s1 : Int × (List (List Int))) : Option ((Int × (List (List Int))) ⊕ ((Int × (List (List Int))) ⊕ (Int × (List (List Int))))) :=
  Option.bind (idx s1.2 v5) fun x14 =>
  Option.bind (l_markInt64S x14 s1.1) fun x17 =>
  Option.bind (setI s1.2 v5 x17.2) fun yb81 =>
  some (.inr (.inr ((x17.1 : Int), (yb81 : (List (List Int))))))
def l_markInt64SS (p0 : (List (List Int))) (p1 : Int) : Option (Int × (List (List Int))) :=
  Option.bind (cntM l_markInt64SS_b0 p0.length 0 ((p1 : Int), (p0 : (List (List Int))))) fun q2 =>
  aft (fun r => some r) (fun s3 =>
    some ((s3.1 : Int), (s3.2 : (List (List Int))))) q2

/- loop.example/g00869/laws.markArena -/

def l_markArena (p0 : Arena) (p1 : Int) : Option (Int × (List Int) × (List (List Int))) :=
  Option.bind (l_markInt64S p0.Owner p1) fun x8 =>
  Option.bind (l_markInt64SS p0.Next x8.1) fun x12 =>
  some ((x12.1 : Int), (x8.2 : (List Int)), (x12.2 : (List (List Int))))

/- loop.example/g00869/laws.markParity -/

def l_markParity (p0 : Parity) (p1 : Int) : Option (Int × (List Int) × (List (List Int)) × (List Int)) :=
  Option.bind (l_markArena p0.Arena p1) fun x8 =>
  Option.bind (l_markInt64S p0.Prio x8.1) fun x12 =>
  some ((x12.1 : Int), (x8.2.1 : (List Int)), (x8.2.2 : (List (List Int))), (x12.2 : (List Int)))

/- loop.example/g00869/laws.heldInt64S -/
def l_heldInt64S_b0 (p0 : (List Int)) (v5 : Int) (s1 : Int) : Option (Int ⊕ ((Int) ⊕ (Int))) :=
  Option.bind (idx p0 v5) fun x14 =>
  bif (x14 != s1) then
    some (.inl ((-1) : Int))
  else
    some (.inr (.inr ((IntKind.i64.wrap (s1 + 1)) : Int)))
def l_heldInt64S (p0 : (List Int)) (p1 : Int) : Option (Int) :=
  Option.bind (cntM (l_heldInt64S_b0 p0) p0.length 0 (p1 : Int)) fun q2 =>
  aft (fun r => some r) (fun s3 =>
    some (s3 : Int)) q2

/- loop.example/g00869/laws.FnExactTurnedBy -/

def l_FnExactTurnedBy (p0 : Parity) (p1 : Edit) : Option (Bool) :=
  Option.bind (l_szParity p0 1048576) fun x15 =>
  bif decide (x15 < 0) then
    some (true : Bool)
  else
    Option.bind (l_toParity p0) fun x19 =>
    Option.bind (l_toEdit p1) fun x21 =>
    Option.bind (s_TurnedBy x19 x21) fun x22 =>
    Option.bind (l_toParity p0) fun x24 =>
    Option.bind (l_toEdit p1) fun x27 =>
    Option.bind (i_TurnedBy x24 x27) fun x28 =>
    Option.bind (l_eqInt64S x28 x22) fun x31 =>
    bif (!x31) then
      some (false : Bool)
    else
      Option.bind (l_toParity p0) fun x35 =>
      Option.bind (l_eqParity x24 x35) fun x36 =>
      bif (!x36) then
        some (false : Bool)
      else
        Option.bind (l_markParity x24 1) fun x40 =>
        Option.bind (bif decide (x40.1 < 0) then
        some true
        else
        Option.bind (l_eqInt64S x28 x22) fun x46 =>
        some (!x46)) fun p48 =>
        bif p48 then
          some (false : Bool)
        else
          Option.bind (l_markInt64S x28 1) fun x51 =>
          Option.bind (l_heldInt64S x51.2 1) fun x54 =>
          bif decide (x54 < 0) then
            some (false : Bool)
          else
            bif (x54 != x51.1) then
              some (false : Bool)
            else
              Option.bind (l_toParity p0) fun x61 =>
              Option.bind (l_toEdit p1) fun x63 =>
              Option.bind (i_TurnedBy x61 x63) fun x64 =>
              Option.bind (l_eqInt64S x64 x22) fun x67 =>
              bif (!x67) then
                some (false : Bool)
              else
                Option.bind (l_heldInt64S x51.2 1) fun x71 =>
                bif decide (x71 < 0) then
                  some (false : Bool)
                else
                  bif (x71 != x51.1) then
                    some (false : Bool)
                  else
                    some (true : Bool)

end Go.Proofs.Ytndiklipffipcaa
