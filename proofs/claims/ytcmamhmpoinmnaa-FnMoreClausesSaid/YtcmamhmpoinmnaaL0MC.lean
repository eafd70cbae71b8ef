/- Functions on data that the laws speak of beside. By program. -/
import Derived.Test.YtcmamhmpoinmnaaLwMC
set_option linter.unusedVariables false
set_option linter.unusedSimpArgs false
set_option maxRecDepth 100000
namespace Go.Proofs.Ytcmamhmpoinmnaa
open Go Go.Wk Go.Proofs
structure l30Graph where
 of : (List Int)
 by0 : (List Int)
 next : (List (List Int))
 letters : (List (List Int))
def s_ClausesOk_b0 (p0 : Sig) (p1 : (List Clause)) (v5 : Int) (s1 : Unit) : Option (Bool ⊕ ((Unit) ⊕ (Unit))) :=
 Option.bind (idx p1 v5) fun x23 =>
 Option.bind (s_ClauseOk p0 x23) fun x25 =>
 bif (!x25) then
  some (.inl (false : Bool))
 else
  some (.inr (.inr ()))
def s_ClausesOk (p0 : Sig) (p1 : (List Clause)) : Option (Bool) :=
 Option.bind (s_SigOk p0) fun x7 =>
 Option.bind (bif (!x7) then
 some true
 else
 some (decide (3 < (p1.length : Int)))) fun p13 =>
 bif p13 then
  some (false : Bool)
 else
  Option.bind (cntM (s_ClausesOk_b0 p0 p1) p1.length 0 ()) fun q2 =>
  aft (fun r => some r) (fun s3 =>
   some (true : Bool)) q2
def s_l23Below_b0 (p0 : (List Int)) (p1 : Int) (v5 : Int) (s1 : Unit) : Option (Bool ⊕ ((Unit) ⊕ (Unit))) :=
 Option.bind (idx p0 v5) fun x14 =>
 Option.bind (s_l1In x14 0 (IntKind.i64.wrap (p1 - 1))) fun x18 =>
 bif (!x18) then
  some (.inl (false : Bool))
 else
  some (.inr (.inr ()))
def s_l23Below (p0 : (List Int)) (p1 : Int) : Option (Bool) :=
 Option.bind (cntM (s_l23Below_b0 p0 p1) p0.length 0 ()) fun q2 =>
 aft (fun r => some r) (fun s3 =>
  some (true : Bool)) q2
def s_DetOk_b0 (p0 : Sig) (p1 : Det) (v6 : Int) (s1 : Unit) : Option (Bool ⊕ ((Unit) ⊕ (Unit))) :=
 Option.bind (idx p1.Next v6) fun x28 =>
 Option.bind (s_LettersOf p0) fun x32 =>
 Option.bind (bif ((x28.length : Int) != x32) then
 some true
 else
 Option.bind (idx p1.Next v6) fun x38 =>
 Option.bind (s_l23Below x38 (p1.Next.length : Int)) fun x41 =>
 some (!x41)) fun p43 =>
 bif p43 then
  some (.inl (false : Bool))
 else
  some (.inr (.inr ()))
def s_DetOk (p0 : Sig) (p1 : Det) : Option (Bool) :=
 Option.bind (s_SigOk p0) fun x11 =>
 Option.bind (bif (!x11) then
 some true
 else
 Option.bind (s_l1In (p1.Next.length : Int) 1 48) fun x15 =>
 some (!x15)) fun p17 =>
 bif p17 then
  some (false : Bool)
 else
  Option.bind (cntM (s_DetOk_b0 p0 p1) p1.Next.length 0 ()) fun q2 =>
  aft (fun r => some r) (fun s3 =>
   Option.bind (s_PairsOk p1.Pairs (p1.Next.length : Int)) fun x47 =>
   some (x47 : Bool)) q2
def s_l26Place_b0 (p0 : (List (List Int))) (p1 : Int) (p2 : Int) (v7 : Int) (s1 : Unit) : Option (Int ⊕ ((Unit) ⊕ (Unit))) :=
 Option.bind (idx p0 v7) fun x16 =>
 Option.bind (idx x16 0) fun x18 =>
 Option.bind (bif (x18 == p1) then
 Option.bind (idx p0 v7) fun x25 =>
 Option.bind (idx x25 1) fun x27 =>
 some (x27 == p2)
 else
 some false) fun p31 =>
 bif p31 then
  some (.inl (v7 : Int))
 else
  some (.inr (.inr ()))
def s_l26Place (p0 : (List (List Int))) (p1 : Int) (p2 : Int) : Option (Int) :=
 Option.bind (cntM (s_l26Place_b0 p0 p1 p2) p0.length 0 ()) fun q2 =>
 aft (fun r => some r) (fun s3 =>
  some ((-1) : Int)) q2
def s_l26Pairs_b2 (p0 : (List Pair)) (p1 : (List (List Int))) (p2 : Int) (v8 : Int) (v10 : Int) (s4 : (List Int) × (List Int)) : Option ((List Pair) ⊕ (((List Int) × (List Int)) ⊕ ((List Int) × (List Int)))) :=
 Option.bind (idx p0 v8) fun x27 =>
 Option.bind (idx p1 v10) fun x32 =>
 Option.bind (idx x32 p2) fun x35 =>
 Option.bind (s_l1Has x27.Ask x35) fun x37 =>
 Option.bind (bif x37 then
  Option.bind (appS 8 s4.1 ([v10] : List Int)) fun x42 =>
  some (x42 : (List Int))
 else
  some (s4.1 : (List Int))) fun q7 =>
 Option.bind (idx p0 v8) fun x46 =>
 Option.bind (idx p1 v10) fun x51 =>
 Option.bind (idx x51 p2) fun x54 =>
 Option.bind (s_l1Has x46.Give x54) fun x56 =>
 Option.bind (bif x56 then
  Option.bind (appS 8 s4.2 ([v10] : List Int)) fun x61 =>
  some (x61 : (List Int))
 else
  some (s4.2 : (List Int))) fun q8 =>
 some (.inr (.inr ((q7 : (List Int)), (q8 : (List Int)))))
def s_l26Pairs_b0 (p0 : (List Pair)) (p1 : (List (List Int))) (p2 : Int) (v8 : Int) (s1 : (List Pair)) : Option ((List Pair) ⊕ (((List Pair)) ⊕ ((List Pair)))) :=
 Option.bind (cntM (s_l26Pairs_b2 p0 p1 p2 v8) p1.length 0 ((([] : List Int) : (List Int)), (([] : List Int) : (List Int)))) fun q5 =>
 aft (fun r => some (.inl r)) (fun s6 =>
  Option.bind (appS 48 s1 ([(⟨s6.1, s6.2⟩ : Pair)] : List Pair)) fun x66 =>
  some (.inr (.inr (x66 : (List Pair))))) q5
def s_l26Pairs (p0 : (List Pair)) (p1 : (List (List Int))) (p2 : Int) : Option ((List Pair)) :=
 Option.bind (cntM (s_l26Pairs_b0 p0 p1 p2) p0.length 0 (([] : List Pair) : (List Pair))) fun q2 =>
 aft (fun r => some r) (fun s3 =>
  some (s3 : (List Pair))) q2
def s_l26Joined_b2 (p0 : Det) (p1 : Det) (s1 : (List (List Int)) × Int × (List (List Int))) (v12 : Int) (s4 : (List (List Int)) × (List Int)) : Option ((Det × Bool) ⊕ (((List (List Int)) × (List Int)) ⊕ ((List (List Int)) × (List Int)))) :=
 Option.bind (idx s4.1 s1.2.1) fun x35 =>
 Option.bind (idx x35 0) fun x37 =>
 Option.bind (idx p0.Next x37) fun x39 =>
 Option.bind (idx x39 v12) fun x42 =>
 Option.bind (idx s4.1 s1.2.1) fun x48 =>
 Option.bind (idx x48 1) fun x50 =>
 Option.bind (idx p1.Next x50) fun x52 =>
 Option.bind (idx x52 v12) fun x55 =>
 Option.bind (s_l26Place s4.1 x42 x55) fun x60 =>
 Option.bind (bif decide (x60 < 0) then
  Option.bind (appS 24 s4.1 ([([x42, x55] : List Int)] : List (List Int))) fun x70 =>
  some ((x70 : (List (List Int))), ((s4.1.length : Int) : Int))
 else
  some ((s4.1 : (List (List Int))), (x60 : Int))) fun q7 =>
 Option.bind (appS 8 s4.2 ([q7.2] : List Int)) fun x74 =>
 some (.inr (.inr ((q7.1 : (List (List Int))), (x74 : (List Int)))))
def s_l26Joined_b0 (p0 : Det) (p1 : Det) (p2 : Int) (s1 : (List (List Int)) × Int × (List (List Int))) : Option ((Det × Bool) ⊕ (((List (List Int)) × Int × (List (List Int))) ⊕ ((List (List Int)) × Int × (List (List Int))))) :=
 bif decide (s1.2.1 < (s1.1.length : Int)) then
  Option.bind (rng p2) fun _ =>
  Option.bind (cntM (s_l26Joined_b2 p0 p1 s1) (Int.toNat (p2 - 0)) 0 ((s1.1 : (List (List Int))), (([] : List Int) : (List Int)))) fun q5 =>
  aft (fun r => some (.inl r)) (fun s6 =>
   bif decide (48 < (s6.1.length : Int)) then
    some (.inl (((⟨([] : List (List Int)), ([] : List Pair)⟩ : Det) : Det), (false : Bool)))
   else
    Option.bind (appS 24 s1.2.2 ([s6.2] : List (List Int))) fun x83 =>
    some (.inr (.inr ((s6.1 : (List (List Int))), ((IntKind.i64.wrap (s1.2.1 + 1)) : Int), (x83 : (List (List Int))))))) q5
 else
  some (.inr (.inl ((s1.1 : (List (List Int))), (s1.2.1 : Int), (s1.2.2 : (List (List Int))))))
def s_l26Joined (p0 : Det) (p1 : Det) (p2 : Int) : Option (Det × Bool) :=
 Option.bind (whileM (s_l26Joined_b0 p0 p1 p2) (2 ^ 64) ((([([0, 0] : List Int)] : List (List Int)) : (List (List Int))), (0 : Int), (([] : List (List Int)) : (List (List Int))))) fun q2 =>
 aft (fun r => some r) (fun s3 =>
  Option.bind (s_l26Pairs p0.Pairs s3.1 0) fun x88 =>
  Option.bind (s_l26Pairs p1.Pairs s3.1 1) fun x92 =>
  Option.bind (appS 48 x88 x92) fun x93 =>
  some (((⟨s3.2.2, x93⟩ : Det) : Det), (true : Bool))) q2
def s_JoinedDet (p0 : Sig) (p1 : Det) (p2 : Det) : Option (Det × Bool) :=
 Option.bind (s_DetOk p0 p1) fun x10 =>
 Option.bind (bif (!x10) then
 some true
 else
 Option.bind (s_DetOk p0 p2) fun x15 =>
 some (!x15)) fun p17 =>
 Option.bind (bif p17 then
 some true
 else
 some (decide (4 < (IntKind.i64.wrap ((p1.Pairs.length : Int) + (p2.Pairs.length : Int)))))) fun p27 =>
 bif p27 then
  some (((⟨([] : List (List Int)), ([] : List Pair)⟩ : Det) : Det), (false : Bool))
 else
  Option.bind (s_LettersOf p0) fun x32 =>
  Option.bind (s_l26Joined p1 p2 x32) fun x33 =>
  some ((x33.1 : Det), (x33.2 : Bool))
def s_ProductOf_b0 (p0 : Sig) (p1 : (List Clause)) (v7 : Int) (s1 : (List (List Int)) × (List Pair)) : Option ((Det × Bool) ⊕ (((List (List Int)) × (List Pair)) ⊕ ((List (List Int)) × (List Pair)))) :=
 Option.bind (idx p1 v7) fun x32 =>
 Option.bind (s_MonitorOf p0 x32) fun x34 =>
 Option.bind (s_JoinedDet p0 (⟨s1.1, s1.2⟩ : Det) x34) fun x35 =>
 bif (!x35.2) then
  some (.inl (((⟨([] : List (List Int)), ([] : List Pair)⟩ : Det) : Det), (false : Bool)))
 else
  some (.inr (.inr ((x35.1.Next : (List (List Int))), (x35.1.Pairs : (List Pair)))))
def s_ProductOf (p0 : Sig) (p1 : (List Clause)) : Option (Det × Bool) :=
 Option.bind (s_ClausesOk p0 p1) fun x12 =>
 bif (!x12) then
  some (((⟨([] : List (List Int)), ([] : List Pair)⟩ : Det) : Det), (false : Bool))
 else
  Option.bind (s_LettersOf p0) fun x16 =>
  Option.bind (mkS 8 x16 (0 : Int)) fun x17 =>
  Option.bind (cntM (s_ProductOf_b0 p0 p1) p1.length 0 ((([x17] : List (List Int)) : (List (List Int))), (([] : List Pair) : (List Pair)))) fun q2 =>
  aft (fun r => some r) (fun s3 =>
   some (((⟨s3.1, s3.2⟩ : Det) : Det), (true : Bool))) q2
def s_l29Ins (p0 : Sig) : Option (Int) :=
 Option.bind (s_l23Power p0.In) fun x5 =>
 some (x5 : Int)
def s_MachineOk_b0 (p0 : Sig) (p1 : Machine) (v6 : Int) (s1 : Unit) : Option (Bool ⊕ ((Unit) ⊕ (Unit))) :=
 Option.bind (idx p1.Next v6) fun x37 =>
 Option.bind (s_l29Ins p0) fun x41 =>
 Option.bind (bif ((x37.length : Int) != x41) then
 some true
 else
 Option.bind (idx p1.Out v6) fun x47 =>
 Option.bind (idx p1.Next v6) fun x53 =>
 some ((x47.length : Int) != (x53.length : Int))) fun p57 =>
 Option.bind (bif p57 then
 some true
 else
 Option.bind (idx p1.Next v6) fun x62 =>
 Option.bind (s_l23Below x62 (p1.Next.length : Int)) fun x65 =>
 some (!x65)) fun p67 =>
 Option.bind (bif p67 then
 some true
 else
 Option.bind (idx p1.Out v6) fun x72 =>
 Option.bind (s_l23Power p0.Out) fun x76 =>
 Option.bind (s_l23Below x72 x76) fun x77 =>
 some (!x77)) fun p79 =>
 bif p79 then
  some (.inl (false : Bool))
 else
  some (.inr (.inr ()))
def s_MachineOk (p0 : Sig) (p1 : Machine) : Option (Bool) :=
 Option.bind (s_SigOk p0) fun x11 =>
 Option.bind (bif (!x11) then
 some true
 else
 Option.bind (s_l1In (p1.Next.length : Int) 1 48) fun x15 =>
 some (!x15)) fun p17 =>
 Option.bind (bif p17 then
 some true
 else
 some ((p1.Out.length : Int) != (p1.Next.length : Int))) fun p26 =>
 bif p26 then
  some (false : Bool)
 else
  Option.bind (cntM (s_MachineOk_b0 p0 p1) p1.Next.length 0 ()) fun q2 =>
  aft (fun r => some r) (fun s3 =>
   some (true : Bool)) q2
def s_l30Find_b0 (p0 : l30Graph) (p1 : Int) (p2 : Int) (v7 : Int) (s1 : Unit) : Option ((Int × (List Int) × (List Int)) ⊕ ((Unit) ⊕ (Unit))) :=
 Option.bind (idx p0.of v7) fun x22 =>
 Option.bind (bif (x22 == p1) then
 Option.bind (idx p0.by0 v7) fun x32 =>
 some (x32 == p2)
 else
 some false) fun p36 =>
 bif p36 then
  some (.inl ((v7 : Int), (p0.of : (List Int)), (p0.by0 : (List Int))))
 else
  some (.inr (.inr ()))
def s_l30Find (p0 : l30Graph) (p1 : Int) (p2 : Int) : Option (Int × (List Int) × (List Int)) :=
 Option.bind (cntM (s_l30Find_b0 p0 p1 p2) p0.of.length 0 ()) fun q2 =>
 aft (fun r => some r) (fun s3 =>
  Option.bind (appS 8 p0.of ([p1] : List Int)) fun x45 =>
  Option.bind (appS 8 p0.by0 ([p2] : List Int)) fun x55 =>
  some (((IntKind.i64.wrap ((x45.length : Int) - 1)) : Int), (x45 : (List Int)), (x55 : (List Int)))) q2
def s_l30Watch_b2 (p0 : Sig) (p1 : Machine) (p2 : Det) (s1 : Int × (List Int) × (List Int) × (List (List Int)) × (List (List Int))) (s4 : (List Int) × (List Int) × Int × (List Int) × (List Int)) : Option ((l30Graph × Bool) ⊕ (((List Int) × (List Int) × Int × (List Int) × (List Int)) ⊕ ((List Int) × (List Int) × Int × (List Int) × (List Int)))) :=
 Option.bind (s_l29Ins p0) fun x31 =>
 bif decide (s4.2.2.1 < x31) then
  Option.bind (idx s4.2.2.2.1 s1.1) fun x42 =>
  Option.bind (idx p1.Out x42) fun x44 =>
  Option.bind (idx x44 s4.2.2.1) fun x47 =>
  Option.bind (s_l29Ins p0) fun x50 =>
  Option.bind (idx s4.2.2.2.1 s1.1) fun x63 =>
  Option.bind (idx p1.Next x63) fun x65 =>
  Option.bind (idx x65 s4.2.2.1) fun x68 =>
  Option.bind (idx s4.2.2.2.2 s1.1) fun x77 =>
  Option.bind (idx p2.Next x77) fun x79 =>
  Option.bind (idx x79 (IntKind.i64.wrap ((IntKind.i64.wrap (x47 * x50)) + s4.2.2.1))) fun x82 =>
  Option.bind (s_l30Find (⟨s4.2.2.2.1, s4.2.2.2.2, s1.2.2.2.1, s1.2.2.2.2⟩ : l30Graph) x68 x82) fun x84 =>
  Option.bind (appS 8 s4.1 ([x84.1] : List Int)) fun x86 =>
  Option.bind (appS 8 s4.2.1 ([(IntKind.i64.wrap ((IntKind.i64.wrap (x47 * x50)) + s4.2.2.1))] : List Int)) fun x90 =>
  some (.inr (.inr ((x86 : (List Int)), (x90 : (List Int)), ((IntKind.i64.wrap (s4.2.2.1 + 1)) : Int), (x84.2.1 : (List Int)), (x84.2.2 : (List Int)))))
 else
  some (.inr (.inl ((s4.1 : (List Int)), (s4.2.1 : (List Int)), (s4.2.2.1 : Int), (s4.2.2.2.1 : (List Int)), (s4.2.2.2.2 : (List Int)))))
def s_l30Watch_b0 (p0 : Sig) (p1 : Machine) (p2 : Det) (s1 : Int × (List Int) × (List Int) × (List (List Int)) × (List (List Int))) : Option ((l30Graph × Bool) ⊕ ((Int × (List Int) × (List Int) × (List (List Int)) × (List (List Int))) ⊕ (Int × (List Int) × (List Int) × (List (List Int)) × (List (List Int))))) :=
 bif decide (s1.1 < (s1.2.1.length : Int)) then
  Option.bind (whileM (s_l30Watch_b2 p0 p1 p2 s1) (2 ^ 64) ((([] : List Int) : (List Int)), (([] : List Int) : (List Int)), (0 : Int), (s1.2.1 : (List Int)), (s1.2.2.1 : (List Int)))) fun q5 =>
  aft (fun r => some (.inl r)) (fun s6 =>
   bif decide (256 < (s6.2.2.2.1.length : Int)) then
    some (.inl (((⟨([] : List Int), ([] : List Int), ([] : List (List Int)), ([] : List (List Int))⟩ : l30Graph) : l30Graph), (false : Bool)))
   else
    Option.bind (appS 24 s1.2.2.2.1 ([s6.1] : List (List Int))) fun x105 =>
    Option.bind (appS 24 s1.2.2.2.2 ([s6.2.1] : List (List Int))) fun x115 =>
    some (.inr (.inr (((IntKind.i64.wrap (s1.1 + 1)) : Int), (s6.2.2.2.1 : (List Int)), (s6.2.2.2.2 : (List Int)), (x105 : (List (List Int))), (x115 : (List (List Int))))))) q5
 else
  some (.inr (.inl ((s1.1 : Int), (s1.2.1 : (List Int)), (s1.2.2.1 : (List Int)), (s1.2.2.2.1 : (List (List Int))), (s1.2.2.2.2 : (List (List Int))))))
def s_l30Watch (p0 : Sig) (p1 : Machine) (p2 : Det) : Option (l30Graph × Bool) :=
 Option.bind (s_l30Find (⟨([] : List Int), ([] : List Int), ([] : List (List Int)), ([] : List (List Int))⟩ : l30Graph) 0 0) fun x17 =>
 Option.bind (whileM (s_l30Watch_b0 p0 p1 p2) (2 ^ 64) ((0 : Int), (x17.2.1 : (List Int)), (x17.2.2 : (List Int)), (([] : List (List Int)) : (List (List Int))), (([] : List (List Int)) : (List (List Int))))) fun q2 =>
 aft (fun r => some r) (fun s3 =>
  some (((⟨s3.2.1, s3.2.2.1, s3.2.2.2.1, s3.2.2.2.2⟩ : l30Graph) : l30Graph), (true : Bool))) q2
def s_l30Part_b0 (p0 : l30Graph) (p1 : (List Int)) (v6 : Int) (s1 : (List Int)) : Option ((List Int) ⊕ (((List Int)) ⊕ ((List Int)))) :=
 Option.bind (idx p0.by0 v6) fun x19 =>
 Option.bind (s_l1Has p1 x19) fun x21 =>
 Option.bind (bif x21 then
  Option.bind (appS 8 s1 ([v6] : List Int)) fun x25 =>
  some (x25 : (List Int))
 else
  some (s1 : (List Int))) fun q4 =>
 some (.inr (.inr (q4 : (List Int))))
def s_l30Part (p0 : l30Graph) (p1 : (List Int)) : Option ((List Int)) :=
 Option.bind (cntM (s_l30Part_b0 p0 p1) p0.by0.length 0 (([] : List Int) : (List Int))) fun q2 =>
 aft (fun r => some r) (fun s3 =>
  some (s3 : (List Int))) q2
def s_WatchOf_b0 (p2 : Det) (x29 : l30Graph × Bool) (v12 : Int) (s1 : (List Pair)) : Option (((List (List Int)) × (List Pair) × Bool) ⊕ (((List Pair)) ⊕ ((List Pair)))) :=
 Option.bind (idx p2.Pairs v12) fun x49 =>
 Option.bind (idx p2.Pairs v12) fun x57 =>
 Option.bind (s_l30Part x29.1 x49.Ask) fun x52 =>
 Option.bind (s_l30Part x29.1 x57.Give) fun x60 =>
 Option.bind (appS 48 s1 ([(⟨x52, x60⟩ : Pair)] : List Pair)) fun x63 =>
 some (.inr (.inr (x63 : (List Pair))))
def s_WatchOf (p0 : Sig) (p1 : Machine) (p2 : Det) : Option ((List (List Int)) × (List Pair) × Bool) :=
 Option.bind (s_MachineOk p0 p1) fun x15 =>
 Option.bind (bif (!x15) then
 some true
 else
 Option.bind (s_DetOk p0 p2) fun x20 =>
 some (!x20)) fun p22 =>
 bif p22 then
  some ((([] : List (List Int)) : (List (List Int))), (([] : List Pair) : (List Pair)), (false : Bool))
 else
  Option.bind (s_l30Watch p0 p1 p2) fun x29 =>
  bif (!x29.2) then
   some ((([] : List (List Int)) : (List (List Int))), (([] : List Pair) : (List Pair)), (false : Bool))
  else
   Option.bind (cntM (s_WatchOf_b0 p2 x29) p2.Pairs.length 0 (([] : List Pair) : (List Pair))) fun q2 =>
   aft (fun r => some r) (fun s3 =>
    some ((x29.1.next : (List (List Int))), (s3 : (List Pair)), (true : Bool))) q2
def s_l30All (p0 : Sig) (p1 : Machine) (p2 : (List Clause)) : Option ((List (List Int)) × (List Pair) × Bool) :=
 Option.bind (s_ProductOf p0 p2) fun x14 =>
 bif (!x14.2) then
  some ((([] : List (List Int)) : (List (List Int))), (([] : List Pair) : (List Pair)), (false : Bool))
 else
  Option.bind (s_WatchOf p0 p1 x14.1) fun x24 =>
  some ((x24.1 : (List (List Int))), (x24.2.1 : (List Pair)), (x24.2.2 : Bool))
def s_l30Far_b0  (v8 : Int) (s1 : (List Int)) : Option ((List Int) ⊕ (((List Int)) ⊕ ((List Int)))) :=
 Option.bind (appS 8 s1 ([(-1)] : List Int)) fun x21 =>
 some (.inr (.inr (x21 : (List Int))))
def s_l30Far_b6 (p0 : (List (List Int))) (p1 : (List Bool)) (v9 : Int) (v10 : Int) (s10 : Int × (List Int)) : Option ((List Int) ⊕ ((Int × (List Int)) ⊕ (Int × (List Int)))) :=
 Option.bind (idx p0 v10) fun x40 =>
 Option.bind (bif decide (s10.1 < (x40.length : Int)) then
 Option.bind (idx s10.2 v10) fun x47 =>
 some (decide (x47 < 0))
 else
 some false) fun p50 =>
 Option.bind (bif p50 then
 Option.bind (idx p1 v10) fun x54 =>
 some x54
 else
 some false) fun p56 =>
 bif p56 then
  Option.bind (idx p0 v10) fun x62 =>
  Option.bind (idx x62 s10.1) fun x65 =>
  Option.bind (idx s10.2 x65) fun x67 =>
  Option.bind (bif (x67 == v9) then
   Option.bind (idx s10.2 v10) fun x75 =>
   Option.bind (setI s10.2 v10 (IntKind.i64.wrap (v9 + 1))) fun y150 =>
   some (y150 : (List Int))
  else
   some (s10.2 : (List Int))) fun q13 =>
  some (.inr (.inr (((IntKind.i64.wrap (s10.1 + 1)) : Int), (q13 : (List Int)))))
 else
  some (.inr (.inl ((s10.1 : Int), (s10.2 : (List Int)))))
def s_l30Far_b4 (p0 : (List (List Int))) (p1 : (List Bool)) (v9 : Int) (v10 : Int) (s7 : (List Int)) : Option ((List Int) ⊕ (((List Int)) ⊕ ((List Int)))) :=
 Option.bind (whileM (s_l30Far_b6 p0 p1 v9 v10) (2 ^ 64) ((0 : Int), (s7 : (List Int)))) fun q11 =>
 aft (fun r => some (.inl r)) (fun s12 =>
  some (.inr (.inr (s12.2 : (List Int))))) q11
def s_l30Far_b2 (p0 : (List (List Int))) (p1 : (List Bool)) (v9 : Int) (s4 : (List Int)) : Option ((List Int) ⊕ (((List Int)) ⊕ ((List Int)))) :=
 Option.bind (cntM (s_l30Far_b4 p0 p1 v9) p0.length 0 (s4 : (List Int))) fun q8 =>
 aft (fun r => some (.inl r)) (fun s9 =>
  some (.inr (.inr (s9 : (List Int))))) q8
def s_l30Far (p0 : (List (List Int))) (p1 : (List Bool)) (p2 : Int) : Option ((List Int)) :=
 Option.bind (cntM s_l30Far_b0 p0.length 0 (([] : List Int) : (List Int))) fun q2 =>
 aft (fun r => some r) (fun s3 =>
  Option.bind (idx s3 p2) fun x24 =>
  Option.bind (setI s3 p2 0) fun y149 =>
  Option.bind (cntM (s_l30Far_b2 p0 p1) p0.length 0 (y149 : (List Int))) fun q5 =>
  aft (fun r => some r) (fun s6 =>
   some (s6 : (List Int))) q5) q2
end Go.Proofs.Ytcmamhmpoinmnaa
set_option linter.unusedVariables false
set_option linter.unusedSimpArgs false
namespace Go.Proofs.Ytcmamhmpoinmnaa
open Go Go.Wk Go.Proofs
theorem orE (b c : Bool) : (bif b then some true else some c) = some (b || c) := by cases b <;> rfl
theorem andE (b c : Bool) : (bif b then some c else some false) = some (b && c) := by cases b <;> rfl
theorem cnt_sim2 {ρ ρ' σ τ : Type} {f : Int → σ → Option (ρ ⊕ (σ ⊕ σ))} {g : Int → τ → Option (ρ' ⊕ (τ ⊕ τ))} (R : Nat → σ → τ → Prop) (O : ρ → ρ' → Prop) (B : σ → τ → Prop) (N : Nat)
 (step : ∀ (j : Nat) s t, j < N → R j s t → ∃ o p, f j s = some o ∧ g j t = some p ∧ (match o, p with
  | .inl r, .inl r' => O r r'
  | .inr (.inl s'), .inr (.inl t') => B s' t'
  | .inr (.inr s'), .inr (.inr t') => R (j + 1) s' t'
  | _, _ => False)) :
 ∀ (k j : Nat) (s : σ) (t : τ), j + k = N → R j s t → ∃ o p, cntM f k j s = some o ∧ cntM g k j t = some p ∧ (match o, p with
  | .inl r, .inl r' => O r r'
  | .inr s', .inr t' => R N s' t' ∨ B s' t'
  | _, _ => False)
 | 0, j, s, t, hj, h => ⟨.inr s, .inr t, rfl, rfl, .inl (by rw [← hj]; exact h)⟩
 | k + 1, j, s, t, hj, h => by
  obtain ⟨o, p, ho, hp, hm⟩ := step j s t (by omega) h
  show ∃ o p, Option.bind (f j s) _ = some o ∧ Option.bind (g j t) _ = some p ∧ _
  rw [ho, hp]
  match o, p, hm with
  | .inl r, .inl r', hm => exact ⟨.inl r, .inl r', rfl, rfl, hm⟩
  | .inr (.inl s'), .inr (.inl t'), hm => exact ⟨.inr s', .inr t', rfl, rfl, .inr hm⟩
  | .inr (.inr s'), .inr (.inr t'), hm =>
   obtain ⟨o', p', h1, h2, h3⟩ := cnt_sim2 R O B N step k (j + 1) s' t' (by omega) hm
   exact ⟨o', p', h1, h2, h3⟩
theorem cnt_allP {ρ α : Type} {f : Int → Unit → Option (ρ ⊕ (Unit ⊕ Unit))} {r : ρ} (g : Nat → α → Bool) {xs : List α} {n : Nat} (hn : n = xs.length) (h : ∀ (i : Nat) x, xs[i]? = some x → f (i : Int) () = some (if g i x then .inr (.inr ()) else .inl r)) :
 cntM f n 0 () = some (if xs.zipIdx.all (fun p => g p.2 p.1) then .inr () else .inl r) := by
 subst hn
 have := cnt_all0 (f := f) (r := r) (fun p : α × Nat => g p.2 p.1) (xs := xs.zipIdx) (n := xs.length) (by simp) (fun i x hx => by
  rw [List.getElem?_zipIdx] at hx
  cases hy : xs[i]? with
  | none => rw [hy] at hx; cases hx
  | some y =>
   rw [hy] at hx
   simp at hx
   subst hx
   exact h i y hy)
 exact this
theorem while_out {ρ σ : Type} {f : σ → Option (ρ ⊕ (σ ⊕ σ))} (I : Nat → σ → Prop) (R : ρ → Prop) (B : σ → Prop) (N : Nat)
 (step : ∀ (j : Nat) s, I j s → ∃ o, f s = some o ∧ (match o with
  | .inl r => R r
  | .inr (.inl s') => B s'
  | .inr (.inr s') => j < N ∧ I (j + 1) s')) :
 ∀ (k j : Nat) (s : σ), N < k + j → I j s → (0 < k) → ∃ o, whileM f k s = some o ∧ (match o with
  | .inl r => R r
  | .inr s' => B s')
 | 0, _, _, _, _, h => absurd h (Nat.lt_irrefl 0)
 | k + 1, j, s, hk, h, _ => by
  obtain ⟨o, ho, hm⟩ := step j s h
  show ∃ o, Option.bind (f s) _ = some o ∧ _
  rw [ho]
  match o, hm with
  | .inl r, hm => exact ⟨.inl r, rfl, hm⟩
  | .inr (.inl s'), hm => exact ⟨.inr s', rfl, hm⟩
  | .inr (.inr s'), hm =>
   obtain ⟨o', h1, h2⟩ := while_out I R B N step k (j + 1) s' (by omega) hm.2 (by omega)
   exact ⟨o', h1, h2⟩
theorem while_sim {ρ ρ' σ τ : Type} {f : σ → Option (ρ ⊕ (σ ⊕ σ))} {g : τ → Option (ρ' ⊕ (τ ⊕ τ))} (R : σ → τ → Prop) (μ : σ → Nat) (O : ρ → ρ' → Prop) (B : σ → τ → Prop)
 (step : ∀ s t, R s t → ∃ o p, f s = some o ∧ g t = some p ∧ (match o, p with
  | .inl r, .inl r' => O r r'
  | .inr (.inl s'), .inr (.inl t') => B s' t'
  | .inr (.inr s'), .inr (.inr t') => R s' t' ∧ μ s' < μ s
  | _, _ => False)) :
 ∀ (k k' : Nat) (s : σ) (t : τ), μ s < k → μ s < k' → R s t → ∃ o p, whileM f k s = some o ∧ whileM g k' t = some p ∧ (match o, p with
  | .inl r, .inl r' => O r r'
  | .inr s', .inr t' => B s' t'
  | _, _ => False)
 | 0, _, _, _, h, _, _ => absurd h (Nat.not_lt_zero _)
 | _, 0, _, _, _, h, _ => absurd h (Nat.not_lt_zero _)
 | k + 1, k' + 1, s, t, hk, hk', h => by
  obtain ⟨o, p, ho, hp, hm⟩ := step s t h
  show ∃ o p, Option.bind (f s) _ = some o ∧ Option.bind (g t) _ = some p ∧ _
  rw [ho, hp]
  match o, p, hm with
  | .inl r, .inl r', hm => exact ⟨.inl r, .inl r', rfl, rfl, hm⟩
  | .inr (.inl s'), .inr (.inl t'), hm => exact ⟨.inr s', .inr t', rfl, rfl, hm⟩
  | .inr (.inr s'), .inr (.inr t'), hm =>
   obtain ⟨o', p', h1, h2, h3⟩ := while_sim R μ O B step k k' s' t' (by omega) (by omega) hm.1
   exact ⟨o', p', h1, h2, h3⟩
theorem ex_nat {z : Int} (h : 0 ≤ z) : ∃ n : Nat, z = n := ⟨z.toNat, by omega⟩
theorem appL {α : Type} {b : Nat} {xs ys : List α} (h : xs.length + ys.length ≤ 100000000000) (hb : Nat.ble b 1024 = true) : appS b xs ys = some (xs ++ ys) := by
 have hb := Nat.ble_eq.mp hb
 have : (xs.length + ys.length) * b ≤ 100000000000 * 1024 := Nat.mul_le_mul h hb
 unfold appS
 rw [if_pos (by omega)]
theorem app1 {α : Type} {b : Nat} {xs : List α} {x : α} (h : xs.length ≤ 10000000000) (hb : Nat.ble b 1024 = true) : appS b xs [x] = some (xs ++ [x]) := appL (by simp only [List.length_cons, List.length_nil]; omega) hb
theorem get_el {α : Type} {xs : List α} {z : Int} (h0 : 0 ≤ z) (h1 : z < xs.length) : ∃ x, idx xs z = some x ∧ x ∈ xs := by
 have hz : z.toNat < xs.length := by omega
 exact ⟨xs[z.toNat], by rw [idx_int h0]; simp [hz], by simp⟩
def RowIn (n : Int) (l : Int) (row : List Int) : Prop := (row.length : Int) = l ∧ ∀ x ∈ row, 0 ≤ x ∧ x < n
def tab (t : List (List Int)) (q i : Int) : Int := (t.getD q.toNat []).getD i.toNat 0
theorem tab_in {t : List (List Int)} {n l : Int} (h : ∀ row ∈ t, RowIn n l row) {q i : Int} (q0 : 0 ≤ q) (q1 : q < t.length) (i0 : 0 ≤ i) (i1 : i < l) :
 ∃ row, idx t q = some row ∧ idx row i = some (tab t q i) ∧ 0 ≤ tab t q i ∧ tab t q i < n := by
 obtain ⟨row, h1, h2⟩ := get_el (xs := t) q0 q1
 obtain ⟨h3, h4⟩ := h row h2
 obtain ⟨x, h5, h6⟩ := get_el (xs := row) i0 (by omega)
 have e : tab t q i = x := by
  unfold tab
  rw [idx_int q0] at h1
  rw [idx_int i0] at h5
  rw [List.getD_eq_getElem?_getD, List.getD_eq_getElem?_getD, h1, Option.getD_some, h5, Option.getD_some]
 rw [e]
 exact ⟨row, h1, h5, h4 x h6⟩
theorem cnt_foldI {ρ σ α : Type} {f : Int → σ → Option (ρ ⊕ (σ ⊕ σ))} (g : σ → α → σ) (I : Nat → σ → Prop) {xs : List α}
 (h : ∀ (i : Nat) x s, xs[i]? = some x → I i s → f (i : Int) s = some (.inr (.inr (g s x))) ∧ I (i + 1) (g s x)) {s : σ} (h0 : I 0 s) :
 cntM f xs.length 0 s = some (.inr (xs.foldl g s)) ∧ I xs.length (xs.foldl g s) := by
 obtain ⟨s', h1, h2, h3⟩ := cnt_inv (f := f) (fun j t => t = (xs.take j).foldl g s ∧ I j t) xs.length (s := s) ⟨by simp, h0⟩ fun j t hj ⟨ht, hI⟩ => by
  have hx : xs[j]? = some xs[j] := by simp [hj]
  obtain ⟨h1, h2⟩ := h j _ t hx hI
  refine ⟨_, h1, ?_, h2⟩
  rw [List.take_add_one, hx, List.foldl_append, ← ht]
  rfl
 rw [h1, h2, List.take_length]
 rw [h2, List.take_length] at h3
 exact ⟨rfl, h3⟩
end Go.Proofs.Ytcmamhmpoinmnaa
set_option linter.unusedVariables false
set_option linter.unusedSimpArgs false
namespace Go.Proofs.Ytcmamhmpoinmnaa
open Go Go.Wk Go.Proofs
def inR (n x : Int) : Bool := decide (0 ≤ x) && decide (x < n)
theorem inR_iff {n x : Int} : inR n x = true ↔ 0 ≤ x ∧ x < n := by unfold inR; simp
theorem inR_one (n x : Int) : (decide (0 ≤ x) && decide (x ≤ n - 1)) = inR n x := by
 unfold inR
 congr 1
 exact decide_eq_decide.2 (by omega)
theorem not_inR (n x : Int) : (decide (x < 0) || decide (n ≤ x)) = !(inR n x) := by
 unfold inR
 by_cases h1 : x < 0 <;> by_cases h2 : n ≤ x <;> simp [h1, h2] <;> omega
theorem gt_not (a b : Int) : decide (a < b) = !decide (b ≤ a) := by rw [← decide_not]; exact decide_eq_decide.2 (by omega)
theorem s_l1In_eq (a b c : Int) : s_l1In a b c = some (decide (b ≤ a) && decide (a ≤ c)) := by
 unfold s_l1In
 by_cases h : b ≤ a <;> simp [h]
theorem nodup_lenN : ∀ (n : Nat) (xs : List Int), xs.Nodup → (∀ x ∈ xs, 0 ≤ x ∧ x < n) → xs.length ≤ n
 | 0, [], _, _ => by simp
 | 0, x :: xs, _, h => by have := h x (List.mem_cons_self ..); omega
 | n + 1, xs, hn, h => by
  by_cases hm : (n : Int) ∈ xs
  · have h1 := List.length_erase_of_mem hm
    have h2 := nodup_lenN n (xs.erase (n : Int)) (hn.erase _) (fun x hx => by
     rw [hn.mem_erase_iff] at hx
     have := h x hx.2
     have := hx.1
     omega)
    omega
  · have := nodup_lenN n xs hn (fun x hx => by
     have h3 := h x hx
     have : x ≠ n := fun e => hm (e ▸ hx)
     omega)
    omega
end Go.Proofs.Ytcmamhmpoinmnaa
set_option linter.unusedVariables false
set_option linter.unusedSimpArgs false
namespace Go.Proofs.Ytcmamhmpoinmnaa
open Go Go.Wk Go.Proofs
def stepUp (n : Int) (xs : List Int) (i : Nat) (x : Int) : Bool := inR n x && (!decide (0 < i) || (match xs[i - 1]? with | some y => decide (y < x) | none => false))
def setOk (n : Int) (xs : List Int) : Bool := xs.zipIdx.all (fun p => stepUp n xs p.2 p.1)
theorem setOk_spec {n : Int} {xs : List Int} (h : setOk n xs = true) : (∀ (i : Nat) x, xs[i]? = some x → 0 ≤ x ∧ x < n) ∧ ∀ (i : Nat) x y, xs[i]? = some x → xs[i + 1]? = some y → x < y := by
 unfold setOk at h
 rw [List.all_eq_true] at h
 refine ⟨fun i x hx => ?_, fun i x y hx hy => ?_⟩
 · have := h (x, i) (List.mem_zipIdx_iff_getElem?.2 hx)
   unfold stepUp at this
   rw [Bool.and_eq_true] at this
   exact inR_iff.1 this.1
 · have := h (y, i + 1) (List.mem_zipIdx_iff_getElem?.2 hy)
   unfold stepUp at this
   simp only [Nat.add_sub_cancel, hx] at this
   have h2 := ((Bool.and_eq_true _ _).mp this).2
   simp at h2
   exact h2
theorem setOk_ge {n : Int} {xs : List Int} (h : setOk n xs = true) : ∀ (i : Nat) x, xs[i]? = some x → (i : Int) ≤ x
 | 0, x, hx => by have := ((setOk_spec h).1 0 x hx).1; omega
 | i + 1, x, hx => by
  have hi : i < xs.length := by have := (List.getElem?_eq_some_iff.1 hx).1; omega
  have hy : xs[i]? = some xs[i] := by simp [hi]
  have := setOk_ge h i _ hy
  have := (setOk_spec h).2 i _ _ hy hx
  omega
theorem setOk_len {n : Int} {xs : List Int} (h : setOk n xs = true) (h0 : 0 ≤ n) : (xs.length : Int) ≤ n := by
 by_cases he : xs.length = 0
 · omega
 · have hx : xs[xs.length - 1]? = some (xs[xs.length - 1]'(by omega)) := List.getElem?_eq_getElem (by omega)
   have := setOk_ge h _ _ hx
   have := ((setOk_spec h).1 _ _ hx).2
   omega
theorem prev_get {xs : List Int} {i : Nat} (hi : i < xs.length) (h : 0 < i) : ∃ y, idx xs (IntKind.i64.wrap ((i : Int) - 1)) = some y ∧ xs[i - 1]? = some y ∨ 1000000000 ≤ i := by
 by_cases hb : 1000000000 ≤ i
 · exact ⟨0, .inr hb⟩
 · refine ⟨xs[i - 1]'(by omega), .inl ⟨?_, List.getElem?_eq_getElem (by omega)⟩⟩
   rw [wr' (by omega) (by omega), show ((i : Int) - 1) = ((i - 1 : Nat) : Int) from by omega, idx_nat]
   exact List.getElem?_eq_getElem (by omega)
theorem s_l1Rises_eq {xs : List Int} {n : Int} (h0 : 0 ≤ n) (h1 : n ≤ 1000000000) (hl : xs.length ≤ 1000000000) : s_l1Rises xs n = some (setOk n xs) := by
 unfold s_l1Rises
 rw [cnt_allP (f := s_l1Rises_b0 xs n) (r := false) (stepUp n xs) (xs := xs) rfl (fun i x hx => by
  have hi := (List.getElem?_eq_some_iff.1 hx).1
  unfold s_l1Rises_b0 stepUp
  rw [idx_nat, hx]
  simp only [Option.bind_some, wr' (z := n - 1) (by omega) (by omega), s_l1In_eq, inR_one]
  cases inR n x with
  | false => rfl
  | true =>
   by_cases hi0 : 0 < i
   · obtain ⟨y, ⟨e1, e2⟩ | e⟩ := prev_get hi hi0
     · have e3 : decide (x ≤ y) = !decide (y < x) := by rw [← decide_not]; exact decide_eq_decide.2 (by omega)
       simp only [e1, e2, show (0 : Int) < (i : Int) from by omega, hi0, decide_true, Bool.not_true, cond_false, cond_true, Option.bind_some, e3, Bool.true_and, Bool.false_or]
       cases decide (y < x) <;> rfl
     · omega
   · have : ¬ (0 : Int) < (i : Int) := by omega
     simp [hi0, this])]
 unfold setOk
 cases List.all xs.zipIdx (fun p => stepUp n xs p.2 p.1) <;> rfl
theorem s_l1Set_eq {xs : List Int} {n : Int} (h0 : 0 ≤ n) (h1 : n ≤ 1000000000) (hl : xs.length ≤ 1000000000) : s_l1Set xs n = some (setOk n xs) := by
 unfold s_l1Set
 rw [s_l1Rises_eq h0 h1 hl]
 by_cases h : (xs.length : Int) ≤ n
 · simp [h]
 · have : setOk n xs = false := by
    cases hs : setOk n xs with
    | false => rfl
    | true => exact absurd (setOk_len hs h0) h
   simp [h, this]
theorem i_isSet_eq {xs : List Int} {n : Int} (hl : xs.length ≤ 1000000000) : i_isSet xs n = some (setOk n xs) := by
 unfold i_isSet
 rw [cnt_allP (f := i_isSet_b0 xs n) (r := false) (stepUp n xs) (xs := xs) rfl (fun i x hx => by
  have hi := (List.getElem?_eq_some_iff.1 hx).1
  unfold i_isSet_b0 stepUp
  rw [idx_nat, hx]
  simp only [Option.bind_some, orE, not_inR]
  cases inR n x with
  | false => rfl
  | true =>
   by_cases hi0 : 0 < i
   · obtain ⟨y, ⟨e1, e2⟩ | e⟩ := prev_get hi hi0
     · have e3 : decide (x ≤ y) = !decide (y < x) := by rw [← decide_not]; exact decide_eq_decide.2 (by omega)
       simp only [e1, e2, show (0 : Int) < (i : Int) from by omega, hi0, decide_true, Bool.not_true, cond_false, cond_true, Option.bind_some, e3, Bool.true_and, Bool.false_or]
       cases decide (y < x) <;> rfl
     · omega
   · have : ¬ (0 : Int) < (i : Int) := by omega
     simp [hi0, this])]
 unfold setOk
 cases List.all xs.zipIdx (fun p => stepUp n xs p.2 p.1) <;> rfl
end Go.Proofs.Ytcmamhmpoinmnaa
set_option linter.unusedVariables false
set_option linter.unusedSimpArgs false
namespace Go.Proofs.Ytcmamhmpoinmnaa
open Go Go.Wk Go.Proofs
abbrev Asc (xs : List Int) : Prop := xs.Pairwise (· < ·)
theorem asc_eq : ∀ {xs ys : List Int}, Asc xs → Asc ys → (∀ z, z ∈ xs ↔ z ∈ ys) → xs = ys
 | [], [], _, _, _ => rfl
 | [], y :: ys, _, _, h => by have := (h y).2 (List.mem_cons_self ..); cases this
 | x :: xs, [], _, _, h => by have := (h x).1 (List.mem_cons_self ..); cases this
 | x :: xs, y :: ys, hx, hy, h => by
  have hx' := List.pairwise_cons.1 hx
  have hy' := List.pairwise_cons.1 hy
  have e : x = y := by
   have h1 := (h x).1 (List.mem_cons_self ..)
   have h2 := (h y).2 (List.mem_cons_self ..)
   rcases List.mem_cons.1 h1 with h1 | h1
   · exact h1
   · rcases List.mem_cons.1 h2 with h2 | h2
     · exact h2.symm
     · have := hx'.1 y h2
       have := hy'.1 x h1
       omega
  subst e
  congr 1
  refine asc_eq hx'.2 hy'.2 fun z => ?_
  have hz := h z
  rw [List.mem_cons, List.mem_cons] at hz
  constructor
  · intro hm
    have := hx'.1 z hm
    rcases hz.1 (.inr hm) with e | hm'
    · omega
    · exact hm'
  · intro hm
    have := hy'.1 z hm
    rcases hz.2 (.inr hm) with e | hm'
    · omega
    · exact hm'
theorem asc_of : ∀ {xs : List Int}, (∀ (i : Nat) x y, xs[i]? = some x → xs[i + 1]? = some y → x < y) → Asc xs
 | [], _ => List.Pairwise.nil
 | [x], _ => by simp
 | x :: y :: r, h => by
  have ih := asc_of (xs := y :: r) (fun i a b ha hb => h (i + 1) a b ha hb)
  have hxy := h 0 x y rfl rfl
  refine List.pairwise_cons.2 ⟨fun z hz => ?_, ih⟩
  rcases List.mem_cons.1 hz with rfl | hz
  · exact hxy
  · have := (List.pairwise_cons.1 ih).1 z hz
    omega
theorem setOk_iff {n : Int} {xs : List Int} : setOk n xs = true ↔ (∀ x ∈ xs, 0 ≤ x ∧ x < n) ∧ Asc xs := by
 constructor
 · intro h
   obtain ⟨h1, h2⟩ := setOk_spec h
   refine ⟨fun x hx => ?_, asc_of h2⟩
   obtain ⟨i, hi⟩ := List.mem_iff_getElem?.1 hx
   exact h1 i x hi
 · rintro ⟨h1, h2⟩
   unfold setOk
   rw [List.all_eq_true]
   rintro ⟨x, i⟩ hx
   have hx := List.mem_zipIdx_iff_getElem?.1 hx
   dsimp only at hx ⊢
   unfold stepUp
   rw [Bool.and_eq_true]
   refine ⟨inR_iff.2 (h1 x (List.mem_of_getElem? hx)), ?_⟩
   by_cases hi : 0 < i
   · have hlt := (List.getElem?_eq_some_iff.1 hx).1
     have hy : xs[i - 1]? = some (xs[i - 1]'(by omega)) := List.getElem?_eq_getElem (by omega)
     have := List.pairwise_iff_getElem.1 h2 (i - 1) i (by omega) hlt (by omega)
     rw [(List.getElem?_eq_some_iff.1 hx).2] at this
     rw [hy]
     simp [this]
   · simp [hi]
theorem asc_nodup {xs : List Int} (h : Asc xs) : xs.Nodup := List.Pairwise.imp (fun h e => by omega) h
theorem sort_asc {xs : List Int} (h : xs.Nodup) : Asc (xs.mergeSort fun x y => decide (x ≤ y)) := by
 have h1 : (xs.mergeSort fun x y => decide (x ≤ y)).Pairwise (fun a b => decide (a ≤ b) = true) := List.pairwise_mergeSort (fun a b c h1 h2 => by simp only [decide_eq_true_eq] at *; omega) (fun a b => by simp only [Bool.or_eq_true, decide_eq_true_eq]; omega) xs
 have h2 : (xs.mergeSort fun x y => decide (x ≤ y)).Nodup := (List.mergeSort_perm xs _).nodup_iff.2 h
 have h3 := List.Pairwise.and h1 h2
 exact h3.imp fun ⟨ha, hb⟩ => by
  simp only [decide_eq_true_eq] at ha
  have : ∀ {a b : Int}, a ≤ b → a ≠ b → a < b := fun h1 h2 => by omega
  exact this ha hb
def ins (n : Int) (xs : List Int) : List Int := xs.filter (fun x => decide (x < n)) ++ n :: xs.filter (fun x => decide (n < x))
end Go.Proofs.Ytcmamhmpoinmnaa
set_option linter.unusedVariables false
set_option linter.unusedSimpArgs false
namespace Go.Proofs.Ytcmamhmpoinmnaa
open Go Go.Wk Go.Proofs
def sigOk (p : Sig) : Bool := (decide (1 ≤ p.In) && decide (p.In ≤ 2)) && (decide (1 ≤ p.Out) && decide (p.Out ≤ 2))
theorem s_SigOk_eq (p : Sig) : s_SigOk p = some (sigOk p) := by
 unfold s_SigOk sigOk
 simp only [s_l1In_eq, Option.bind_some]
 cases (decide (1 ≤ p.In) && decide (p.In ≤ 2)) <;> simp
theorem i_isSig_eq (p : Sig) : i_isSig p = some (sigOk p) := by
 unfold i_isSig sigOk
 by_cases h1 : 1 ≤ p.In <;> by_cases h2 : p.In ≤ 2 <;> by_cases h3 : 1 ≤ p.Out <;> by_cases h4 : p.Out ≤ 2 <;> simp [h1, h2, h3, h4]
theorem s_l23Below_eq (xs : List Int) {n : Int} (h0 : -1000000000000000000 ≤ n) (h1 : n ≤ 1000000000000000000) : s_l23Below xs n = some (xs.all (inR n)) := by
 unfold s_l23Below
 have hm := cnt_all0 (f := s_l23Below_b0 xs n) (r := false) (inR n) (xs := xs) rfl (fun i y hy => by
  unfold s_l23Below_b0
  rw [wr' (by omega) (by omega), idx_nat, hy, Option.bind_some, s_l1In_eq, Option.bind_some]
  have : (decide (0 ≤ y) && decide (y ≤ n - 1)) = inR n y := by
   unfold inR
   congr 1
   exact decide_eq_decide.2 (by omega)
  rw [this]
  cases inR n y <;> rfl)
 rw [hm, Option.bind_some]
 cases xs.all (inR n) <;> rfl
theorem i_areLetters_eq (xs : List Int) (n : Int) : i_areLetters xs n = some (xs.all (inR n)) := by
 unfold i_areLetters
 rw [slices_ContainsFunc_I_int64__i_areLetters_1_eq (fun x => decide (x < 0) || decide (n ≤ x)) (fun x _ => by
  unfold i_areLetters_1
  by_cases h : x < 0 <;> simp [h]), Option.bind_some]
 congr 1
 rw [List.all_eq_not_any_not]
 congr 2
 funext x
 unfold inR
 by_cases h : x < 0 <;> by_cases h' : n ≤ x <;> simp [h, h'] <;> omega
def pw (n : Int) : Int := if n = 1 then 2 else 4
theorem s_l23Power_eq {n : Int} (h : n = 1 ∨ n = 2) : s_l23Power n = some (pw n) := by
 unfold s_l23Power
 rcases h with rfl | rfl
 · rw [whileM_pos (by omega)]
   have : s_l23Power_b0 (1, 1) = some (.inr (.inr (0, 2))) := by decide
   rw [this, Option.bind_some, lpK_nxt, whileM_pos (by omega)]
   rfl
 · rw [whileM_pos (by omega)]
   have : s_l23Power_b0 (2, 1) = some (.inr (.inr (1, 2))) := by decide
   rw [this, Option.bind_some, lpK_nxt, whileM_pos (by omega)]
   have : s_l23Power_b0 (1, 2) = some (.inr (.inr (0, 4))) := by decide
   rw [this, Option.bind_some, lpK_nxt, whileM_pos (by omega)]
   rfl
theorem i_shift {n : Int} (h : n = 1 ∨ n = 2) : nn n = some () ∧ IntKind.i64.wrap (1 * 2 ^ (min (Int.toNat n) (IntKind.bits IntKind.i64))) = pw n := by
 rcases h with rfl | rfl <;> decide
theorem sigOk_in {p : Sig} (h : sigOk p = true) : (p.In = 1 ∨ p.In = 2) ∧ (p.Out = 1 ∨ p.Out = 2) := by
 simp only [sigOk, Bool.and_eq_true, decide_eq_true_eq] at h
 omega
theorem pw_le (n : Int) : 2 ≤ pw n ∧ pw n ≤ 4 := by unfold pw; split <;> omega
end Go.Proofs.Ytcmamhmpoinmnaa
set_option linter.unusedVariables false
set_option linter.unusedSimpArgs false
namespace Go.Proofs.Ytcmamhmpoinmnaa
open Go Go.Wk Go.Proofs
end Go.Proofs.Ytcmamhmpoinmnaa
set_option linter.unusedVariables false
set_option linter.unusedSimpArgs false
namespace Go.Proofs.Ytcmamhmpoinmnaa
open Go Go.Wk Go.Proofs
end Go.Proofs.Ytcmamhmpoinmnaa
set_option linter.unusedVariables false
set_option linter.unusedSimpArgs false
namespace Go.Proofs.Ytcmamhmpoinmnaa
open Go Go.Wk Go.Proofs
def pairOk (n : Int) (x : Pair) : Bool := setOk n x.Ask && setOk n x.Give
def pairsOk (xs : List Pair) (n : Int) : Bool := decide ((xs.length : Int) ≤ 4) && xs.all (pairOk n)
section
variable {xs : List Pair} {n : Int} (h0 : 0 ≤ n) (h1 : n ≤ 256) (hb : ∀ x ∈ xs, x.Ask.length ≤ 1000000000 ∧ x.Give.length ≤ 1000000000)
include h0 h1 hb
omit hb in
theorem s_SetOk_eqD {s : List Int} (hl : s.length ≤ 1000000000) : s_SetOk s n = some (setOk n s) := by
 unfold s_SetOk
 rw [s_l1In_eq, s_l1Set_eq h0 (by omega) hl]
 simp [h0, h1]
theorem s_PairsOk_eqD : s_PairsOk xs n = some (pairsOk xs n) := by
 unfold s_PairsOk pairsOk
 rw [s_l1In_eq]
 simp only [h0, h1, decide_true, Bool.and_self, Option.bind_some, Bool.not_true, cond_false, gt_not]
 cases decide ((xs.length : Int) ≤ 4) with
 | false => rfl
 | true =>
  rw [cnt_all0 (f := s_PairsOk_b0 xs n) (r := false) (pairOk n) (xs := xs) rfl (fun i x hx => by
   obtain ⟨b1, b2⟩ := hb x (List.mem_of_getElem? hx)
   unfold s_PairsOk_b0 pairOk
   rw [idx_nat, hx]
   simp only [Option.bind_some, s_SetOk_eqD h0 h1 b1, s_SetOk_eqD h0 h1 b2]
   cases setOk n x.Ask <;> cases setOk n x.Give <;> rfl)]
  simp only [Bool.not_true, cond_false, Option.bind_some, Bool.true_and]
  cases xs.all (pairOk n) <;> rfl
end
end Go.Proofs.Ytcmamhmpoinmnaa
set_option linter.unusedVariables false
set_option linter.unusedSimpArgs false
namespace Go.Proofs.Ytcmamhmpoinmnaa
open Go Go.Wk Go.Proofs
section
variable {xs : List Pair} {n : Int} (h0 : 0 ≤ n) (h1 : n ≤ 256) (hb : ∀ x ∈ xs, x.Ask.length ≤ 1000000000 ∧ x.Give.length ≤ 1000000000)
include h0 h1 hb
omit h0 h1 in
theorem i_arePairs_eqD : i_arePairs xs n = some (pairsOk xs n) := by
 unfold i_arePairs pairsOk
 rw [cnt_all0 (f := i_arePairs_b0 xs n) (r := false) (pairOk n) (xs := xs) rfl (fun i x hx => by
  obtain ⟨b1, b2⟩ := hb x (List.mem_of_getElem? hx)
  unfold i_arePairs_b0 pairOk
  rw [idx_nat, hx]
  simp only [Option.bind_some, i_isSet_eq b1, i_isSet_eq b2]
  cases setOk n x.Ask <;> cases setOk n x.Give <;> rfl)]
 cases xs.all (pairOk n) <;> simp [aft]
end
end Go.Proofs.Ytcmamhmpoinmnaa
set_option linter.unusedVariables false
set_option linter.unusedSimpArgs false
namespace Go.Proofs.Ytcmamhmpoinmnaa
open Go Go.Wk Go.Proofs
def ltd (p : Sig) : Int := pw p.In * pw p.Out
theorem s_LettersOf_eqD {p : Sig} (hs : sigOk p = true) : s_LettersOf p = some (ltd p) := by
 unfold s_LettersOf
 rw [s_SigOk_eq, hs]
 obtain ⟨hi, ho⟩ := sigOk_in hs
 unfold ltd
 simp only [Option.bind_some, Bool.not_true, cond_false]
 rcases hi with h | h <;> rcases ho with k | k <;> rw [h, k] <;> decide
theorem i_lettersOf_eqD {p : Sig} (hs : sigOk p = true) : i_lettersOf p = some (ltd p) := by
 obtain ⟨h1, h2⟩ := sigOk_in hs
 unfold i_lettersOf ltd
 rcases h1 with h1 | h1 <;> rcases h2 with h2 | h2 <;> rw [h1, h2] <;> decide
def detRow (p : Sig) (n : Int) (row : List Int) : Bool := ((row.length : Int) == ltd p) && row.all (inR n)
def detOk (p : Sig) (d : Det) : Bool := decide (1 ≤ (d.Next.length : Int)) && decide ((d.Next.length : Int) ≤ 48) && pairsOk d.Pairs d.Next.length && d.Next.all (detRow p d.Next.length)
section
variable {p : Sig} {d : Det} (hs : sigOk p = true) (hb : ∀ x ∈ d.Pairs, x.Ask.length ≤ 1000000000 ∧ x.Give.length ≤ 1000000000)
include hs hb
theorem s_DetOk_eqD : s_DetOk p d = some (detOk p d) := by
 unfold s_DetOk detOk
 rw [s_SigOk_eq, hs]
 simp only [Option.bind_some, Bool.not_true, cond_false, s_l1In_eq]
 cases h1 : (decide (1 ≤ (d.Next.length : Int)) && decide ((d.Next.length : Int) ≤ 48)) with
 | false => rfl
 | true =>
  simp only [Bool.and_eq_true, decide_eq_true_eq] at h1
  rw [cnt_all0 (f := s_DetOk_b0 p d) (r := false) (detRow p d.Next.length) (xs := d.Next) rfl (fun i row hx => by
   unfold s_DetOk_b0 detRow
   rw [idx_nat, hx]
   simp only [Option.bind_some, s_LettersOf_eqD hs, s_l23Below_eq row (n := (d.Next.length : Int)) (by omega) (by omega), bne]
   cases ((row.length : Int) == ltd p) <;> cases row.all (inR d.Next.length) <;> rfl), s_PairsOk_eqD (by omega) (by omega) hb]
  simp only [Bool.not_true, cond_false, Option.bind_some, Bool.true_and]
  cases d.Next.all (detRow p d.Next.length) <;> cases pairsOk d.Pairs d.Next.length <;> rfl
omit hs hb in
theorem detOk_spec (h : detOk p d = true) : 1 ≤ d.Next.length ∧ d.Next.length ≤ 48 ∧ d.Pairs.length ≤ 4 ∧ ∀ row ∈ d.Next, RowIn d.Next.length (ltd p) row := by
 simp only [detOk, pairsOk, Bool.and_eq_true, decide_eq_true_eq, List.all_eq_true] at h
 obtain ⟨⟨⟨h1, h2⟩, h3, _⟩, h4⟩ := h
 refine ⟨by omega, by omega, by omega, fun row hr => ?_⟩
 have := h4 row hr
 simp only [detRow, Bool.and_eq_true, beq_iff_eq, List.all_eq_true, inR_iff] at this
 exact this
end
end Go.Proofs.Ytcmamhmpoinmnaa
set_option linter.unusedVariables false
set_option linter.unusedSimpArgs false
namespace Go.Proofs.Ytcmamhmpoinmnaa
open Go Go.Wk Go.Proofs
section
variable {p : Sig} {d : Det} (hs : sigOk p = true) (hb : ∀ x ∈ d.Pairs, x.Ask.length ≤ 1000000000 ∧ x.Give.length ≤ 1000000000)
include hs hb
theorem i_isDet_eqD : i_isDet p d = some (detOk p d) := by
 unfold i_isDet detOk
 simp only [gt_not, orE, Option.bind_some]
 rw [← Bool.not_and]
 cases h1 : (decide (1 ≤ (d.Next.length : Int)) && decide ((d.Next.length : Int) ≤ 48)) with
 | false => rfl
 | true =>
  simp only [Bool.and_eq_true, decide_eq_true_eq] at h1
  rw [cnt_all0 (f := i_isDet_b0 p d) (r := false) (detRow p d.Next.length) (xs := d.Next) rfl (fun i row hx => by
   unfold i_isDet_b0 detRow
   rw [idx_nat, hx]
   simp only [Option.bind_some, i_lettersOf_eqD hs, i_areLetters_eq, bne]
   cases ((row.length : Int) == ltd p) <;> cases row.all (inR d.Next.length) <;> rfl), i_arePairs_eqD hb]
  simp only [Bool.not_true, cond_false, Option.bind_some, Bool.true_and]
  cases d.Next.all (detRow p d.Next.length) <;> cases pairsOk d.Pairs d.Next.length <;> rfl
end
end Go.Proofs.Ytcmamhmpoinmnaa
set_option linter.unusedVariables false
set_option linter.unusedSimpArgs false
namespace Go.Proofs.Ytcmamhmpoinmnaa
open Go Go.Wk Go.Proofs
def ltr (p : Sig) : Int := pw p.In * pw p.Out
theorem ltr_in {p : Sig} (hs : sigOk p = true) : 4 ≤ ltr p ∧ ltr p ≤ 16 := by
 obtain ⟨hi, ho⟩ := sigOk_in hs
 unfold ltr pw
 rcases hi with h | h <;> rcases ho with k | k <;> rw [h, k] <;> decide
theorem s_LettersOf_eq {p : Sig} (hs : sigOk p = true) : s_LettersOf p = some (ltr p) := by
 unfold s_LettersOf
 rw [s_SigOk_eq, hs]
 obtain ⟨hi, ho⟩ := sigOk_in hs
 unfold ltr
 simp only [Option.bind_some, Bool.not_true, cond_false]
 rcases hi with h | h <;> rcases ho with k | k <;> rw [h, k] <;> decide
theorem i_lettersOf_eq {p : Sig} (hs : sigOk p = true) : i_lettersOf p = some (ltr p) := by
 unfold i_lettersOf
 obtain ⟨hi, ho⟩ := sigOk_in hs
 unfold ltr
 rcases hi with h | h <;> rcases ho with k | k <;> rw [h, k] <;> decide
def clauseOk (p : Sig) (c : Clause) : Bool := decide (1 ≤ c.Kind) && decide (c.Kind ≤ 7) && setOk (ltr p) c.A && setOk (ltr p) c.B && (c.Kind == 2 || c.Kind == 3 || c.Kind == 7 || ((c.B.length : Int) == 0))
theorem s_ClauseOk_eq {p : Sig} (hs : sigOk p = true) {c : Clause} (hb : Clause.bd c) : s_ClauseOk p c = some (clauseOk p c) := by
 obtain ⟨_, ⟨hA, _⟩, ⟨hB, _⟩⟩ := hb
 have hl := ltr_in hs
 unfold s_ClauseOk clauseOk s_l24Both
 rw [s_SigOk_eq, hs, s_LettersOf_eq hs]
 simp only [Option.bind_some, Bool.not_true, cond_false, s_l1In_eq, s_l1Set_eq (xs := c.A) (n := ltr p) (by omega) (by omega) (by omega), s_l1Set_eq (xs := c.B) (n := ltr p) (by omega) (by omega) (by omega), orE, andE]
 generalize decide (1 ≤ c.Kind) = b1
 generalize decide (c.Kind ≤ 7) = b2
 generalize setOk (ltr p) c.A = b3
 generalize setOk (ltr p) c.B = b4
 generalize (c.Kind == 2) = b5
 generalize (c.Kind == 3) = b6
 generalize (c.Kind == 7) = b7
 generalize ((c.B.length : Int) == 0) = b8
 cases b1 <;> cases b2 <;> cases b3 <;> cases b4 <;> cases b5 <;> cases b6 <;> cases b7 <;> cases b8 <;> rfl
theorem i_isClause_eq {p : Sig} (hs : sigOk p = true) {c : Clause} (hb : Clause.bd c) : i_isClause p c = some (clauseOk p c) := by
 obtain ⟨_, ⟨hA, _⟩, ⟨hB, _⟩⟩ := hb
 unfold i_isClause clauseOk i_hasSecond
 have e1 : decide (c.Kind < 1) = !decide (1 ≤ c.Kind) := by rw [← decide_not]; exact decide_eq_decide.2 (by omega)
 have e2 : decide (7 < c.Kind) = !decide (c.Kind ≤ 7) := by rw [← decide_not]; exact decide_eq_decide.2 (by omega)
 rw [i_lettersOf_eq hs, e1, e2]
 simp only [Option.bind_some, i_isSet_eq (xs := c.A) (n := ltr p) (by omega), i_isSet_eq (xs := c.B) (n := ltr p) (by omega), orE, andE]
 generalize decide (1 ≤ c.Kind) = b1
 generalize decide (c.Kind ≤ 7) = b2
 generalize setOk (ltr p) c.A = b3
 generalize setOk (ltr p) c.B = b4
 generalize (c.Kind == 2) = b5
 generalize (c.Kind == 3) = b6
 generalize (c.Kind == 7) = b7
 generalize ((c.B.length : Int) == 0) = b8
 cases b1 <;> cases b2 <;> cases b3 <;> cases b4 <;> cases b5 <;> cases b6 <;> cases b7 <;> cases b8 <;> rfl
theorem s_ClausesOk_eq {p : Sig} (hs : sigOk p = true) {cs : List Clause} (hb : ∀ c ∈ cs, Clause.bd c) : s_ClausesOk p cs = some (decide ((cs.length : Int) ≤ 3) && cs.all (clauseOk p)) := by
 unfold s_ClausesOk
 rw [s_SigOk_eq, hs]
 have e : decide (3 < (cs.length : Int)) = !decide ((cs.length : Int) ≤ 3) := by rw [← decide_not]; exact decide_eq_decide.2 (by omega)
 simp only [Option.bind_some, Bool.not_true, cond_false, e]
 cases decide ((cs.length : Int) ≤ 3) with
 | false => rfl
 | true =>
  simp only [Bool.not_true, cond_false, Bool.true_and]
  rw [cnt_all0 (f := s_ClausesOk_b0 p cs) (r := false) (clauseOk p) (xs := cs) rfl (fun i c hc => by
   unfold s_ClausesOk_b0
   rw [idx_nat, hc, Option.bind_some, s_ClauseOk_eq hs (hb c (List.mem_of_getElem? hc)), Option.bind_some]
   cases clauseOk p c <;> rfl)]
  cases cs.all (clauseOk p) <;> rfl
theorem i_areClauses_eq {p : Sig} (hs : sigOk p = true) {cs : List Clause} (hb : ∀ c ∈ cs, Clause.bd c) : i_areClauses p cs = some (decide ((cs.length : Int) ≤ 3) && cs.all (clauseOk p)) := by
 unfold i_areClauses
 rw [slices_ContainsFunc_i_Clause_i_Clause__i_areClauses_1_eq (fun c => !clauseOk p c) (fun c hc => by
  unfold i_areClauses_1
  rw [i_isClause_eq hs (hb c hc)]; rfl)]
 simp only [Option.bind_some, andE]
 rw [List.all_eq_not_any_not]
end Go.Proofs.Ytcmamhmpoinmnaa
set_option linter.unusedVariables false
set_option linter.unusedSimpArgs false
namespace Go.Proofs.Ytcmamhmpoinmnaa
open Go Go.Wk Go.Proofs
theorem s_hasM {row : List Int} {v : Int} : s_l1Has row v = some (decide (v ∈ row)) := by
 unfold s_l1Has
 rw [cnt_all0 (f := s_l1Has_b0 row v) (r := true) (xs := row) (fun x => !(x == v)) rfl (fun i x hx => by
  unfold s_l1Has_b0
  rw [idx_nat, hx, Option.bind_some]
  cases x == v <;> rfl)]
 by_cases h : v ∈ row
 · have : (row.all fun x => !(x == v)) = false := by
    rw [List.all_eq_false]
    exact ⟨v, h, by simp⟩
   rw [this, decide_eq_true h]; rfl
 · have : (row.all fun x => !(x == v)) = true := by
    rw [List.all_eq_true]
    intro x hx
    have : x ≠ v := fun e => h (e ▸ hx)
    simp [this]
   rw [this, decide_eq_false h]; rfl
structure St (n : Nat) (xs : List Int) : Prop where
 asc : Asc xs
 rng : ∀ x ∈ xs, 0 ≤ x ∧ x < n
theorem St.len {n : Nat} {xs : List Int} (h : St n xs) : xs.length ≤ n := nodup_lenN n xs (asc_nodup h.asc) h.rng
theorem St.ok {n : Nat} {xs : List Int} (h : St n xs) {m : Int} (hm : (n : Int) ≤ m) : setOk m xs = true := setOk_iff.2 ⟨fun x hx => by have := h.rng x hx; omega, h.asc⟩
theorem St.of {n : Nat} {xs : List Int} (h : setOk (n : Int) xs = true) : St n xs := ⟨(setOk_iff.1 h).2, (setOk_iff.1 h).1⟩
theorem St.filter {n : Nat} {xs : List Int} (h : St n xs) (p : Int → Bool) : St n (xs.filter p) := ⟨h.asc.filter _, fun x hx => h.rng x (List.mem_filter.1 hx).1⟩
section
variable {n : Nat} {xs ys : List Int} (hn : n ≤ 256) (hx : St n xs) (hy : St n ys)
include hn hx hy
end
end Go.Proofs.Ytcmamhmpoinmnaa
set_option linter.unusedVariables false
set_option linter.unusedSimpArgs false
namespace Go.Proofs.Ytcmamhmpoinmnaa
open Go Go.Wk Go.Proofs
def rowOk (p : Sig) (m : Machine) (i : Nat) (row : List Int) : Bool :=
 match m.Out[i]? with
 | some o => ((row.length : Int) == pw p.In) && ((o.length : Int) == (row.length : Int)) && row.all (inR (m.Next.length : Int)) && o.all (inR (pw p.Out))
 | none => false
def machOk (p : Sig) (m : Machine) : Bool := decide (1 ≤ (m.Next.length : Int)) && decide ((m.Next.length : Int) ≤ 48) && ((m.Out.length : Int) == (m.Next.length : Int)) && m.Next.zipIdx.all (fun x => rowOk p m x.2 x.1)
theorem s_MachineOk_eq (p : Sig) (m : Machine) : s_MachineOk p m = some (sigOk p && machOk p m) := by
 unfold s_MachineOk machOk
 rw [s_SigOk_eq, Option.bind_some]
 cases hs : sigOk p with
 | false => rfl
 | true =>
  obtain ⟨hi, ho⟩ := sigOk_in hs
  have pI := pw_le p.In
  have pO := pw_le p.Out
  simp only [Bool.not_true, cond_false, s_l1In_eq, Option.bind_some, Bool.true_and]
  cases h1 : (decide (1 ≤ (m.Next.length : Int)) && decide ((m.Next.length : Int) ≤ 48)) with
  | false => rfl
  | true =>
   simp only [Bool.and_eq_true, decide_eq_true_eq] at h1
   simp only [Bool.not_true, cond_false, Option.bind_some, Bool.true_and, bne]
   cases h2 : ((m.Out.length : Int) == (m.Next.length : Int)) with
   | false => rfl
   | true =>
    have h2 := beq_iff_eq.1 h2
    rw [cnt_allP (f := s_MachineOk_b0 p m) (r := false) (rowOk p m) (xs := m.Next) rfl (fun i row hx => by
     have hlt := (List.getElem?_eq_some_iff.1 hx).1
     obtain ⟨o, hout⟩ : ∃ o, m.Out[i]? = some o := ⟨_, List.getElem?_eq_getElem (by omega)⟩
     have hv : rowOk p m i row = (((row.length : Int) == pw p.In) && ((o.length : Int) == (row.length : Int)) && row.all (inR (m.Next.length : Int)) && o.all (inR (pw p.Out))) := by unfold rowOk; rw [hout]
     rw [hv]
     unfold s_MachineOk_b0
     rw [idx_nat, idx_nat, hx, hout]
     simp only [Option.bind_some, s_l29Ins, s_l23Power_eq hi, s_l23Power_eq ho, s_l23Below_eq row (n := (m.Next.length : Int)) (by omega) (by omega), s_l23Below_eq o (n := pw p.Out) (by omega) (by omega), bne]
     generalize ((row.length : Int) == pw p.In) = b1
     generalize ((o.length : Int) == (row.length : Int)) = b2
     generalize row.all (inR (m.Next.length : Int)) = b3
     generalize o.all (inR (pw p.Out)) = b4
     cases b1 <;> cases b2 <;> cases b3 <;> cases b4 <;> rfl)]
    simp only [Bool.not_true, cond_false, Option.bind_some, Bool.true_and]
    cases List.all m.Next.zipIdx (fun x => rowOk p m x.2 x.1) <;> rfl
theorem i_inputsOf_eq {p : Sig} (hs : sigOk p = true) : i_inputsOf p = some (pw p.In) := by
 obtain ⟨hi, _⟩ := sigOk_in hs
 unfold i_inputsOf
 rw [(i_shift hi).1, Option.bind_some, (i_shift hi).2]
theorem i_isMachine_eq {p : Sig} (hs : sigOk p = true) (m : Machine) : i_isMachine p m = some (machOk p m) := by
 unfold i_isMachine machOk
 obtain ⟨hi, ho⟩ := sigOk_in hs
 simp only [orE, Option.bind_some, gt_not, bne]
 rw [← Bool.not_and, ← Bool.not_and]
 cases h1 : (decide (1 ≤ (m.Next.length : Int)) && decide ((m.Next.length : Int) ≤ 48) && ((m.Out.length : Int) == (m.Next.length : Int))) with
 | false => rfl
 | true =>
  simp only [Bool.and_eq_true, decide_eq_true_eq, beq_iff_eq] at h1
  simp only [Bool.not_true, cond_false, Option.bind_some, Bool.true_and]
  rw [cnt_allP (f := i_isMachine_b0 p m) (r := false) (rowOk p m) (xs := m.Next) rfl (fun i row hx => by
   have hlt := (List.getElem?_eq_some_iff.1 hx).1
   obtain ⟨o, hout⟩ : ∃ o, m.Out[i]? = some o := ⟨_, List.getElem?_eq_getElem (by omega)⟩
   have hv : rowOk p m i row = (((row.length : Int) == pw p.In) && ((o.length : Int) == (row.length : Int)) && row.all (inR (m.Next.length : Int)) && o.all (inR (pw p.Out))) := by unfold rowOk; rw [hout]
   rw [hv]
   unfold i_isMachine_b0
   rw [idx_nat, idx_nat, hx, hout]
   simp only [Option.bind_some, i_inputsOf_eq hs, (i_shift ho).1, (i_shift ho).2, i_areLetters_eq, bne]
   generalize ((row.length : Int) == pw p.In) = b1
   generalize ((o.length : Int) == (row.length : Int)) = b2
   generalize row.all (inR (m.Next.length : Int)) = b3
   generalize o.all (inR (pw p.Out)) = b4
   cases b1 <;> cases b2 <;> cases b3 <;> cases b4 <;> rfl)]
  cases List.all m.Next.zipIdx (fun x => rowOk p m x.2 x.1) <;> rfl
theorem machOk_spec {p : Sig} {m : Machine} (h : machOk p m = true) : 1 ≤ m.Next.length ∧ m.Next.length ≤ 48 ∧ m.Out.length = m.Next.length ∧
 (∀ row ∈ m.Next, RowIn m.Next.length (pw p.In) row) ∧ (∀ row ∈ m.Out, RowIn (pw p.Out) (pw p.In) row) := by
 simp only [machOk, Bool.and_eq_true, decide_eq_true_eq, beq_iff_eq] at h
 obtain ⟨⟨⟨h1, h2⟩, h3⟩, h4⟩ := h
 rw [List.all_eq_true] at h4
 have key : ∀ (i : Nat) row, m.Next[i]? = some row → ∃ o, m.Out[i]? = some o ∧ RowIn m.Next.length (pw p.In) row ∧ RowIn (pw p.Out) (pw p.In) o := fun i row hr => by
  have := h4 (row, i) (List.mem_zipIdx_iff_getElem?.2 hr)
  unfold rowOk at this
  cases ho : m.Out[i]? with
  | none => simp [ho] at this
  | some o =>
   simp only [ho, Bool.and_eq_true, beq_iff_eq, List.all_eq_true, inR_iff] at this
   obtain ⟨⟨⟨k1, k2⟩, k3⟩, k4⟩ := this
   exact ⟨o, rfl, ⟨k1, k3⟩, ⟨by omega, k4⟩⟩
 refine ⟨by omega, by omega, by omega, fun row hr => ?_, fun o ho => ?_⟩
 · obtain ⟨i, hi⟩ := List.mem_iff_getElem?.1 hr
   exact (key i row hi).choose_spec.2.1
 · obtain ⟨i, hi⟩ := List.mem_iff_getElem?.1 ho
   have hlt := (List.getElem?_eq_some_iff.1 hi).1
   obtain ⟨o', h5, _, h6⟩ := key i _ (List.getElem?_eq_getElem (by omega))
   rw [hi] at h5
   cases h5
   exact h6
end Go.Proofs.Ytcmamhmpoinmnaa
set_option linter.unusedVariables false
set_option linter.unusedSimpArgs false
namespace Go.Proofs.Ytcmamhmpoinmnaa
open Go Go.Wk Go.Proofs
abbrev Key := Int × Int
def loc (K : List Key) (k : Key) : Option Nat := K.findIdx? (fun x => k == x)
def addK (K : List Key) (k : Key) : List Key := match loc K k with | some _ => K | none => K ++ [k]
def atK (K : List Key) (k : Key) : Int := match loc K k with | some i => (i : Int) | none => (K.length : Int)
def ixm (n : Nat) (K : List Key) : List (Key × Int) := (K.zipIdx n).map fun p => (p.1, (p.2 : Int))
theorem ixm_cons (n : Nat) (x : Key) (K : List Key) : ixm n (x :: K) = (x, (n : Int)) :: ixm (n + 1) K := rfl
theorem loc_cons (x : Key) (K : List Key) (k : Key) : loc (x :: K) k = if k = x then some 0 else (loc K k).map (· + 1) := by
 unfold loc
 rw [List.findIdx?_cons]
 by_cases h : k = x
 · simp [h]
 · have : (k == x) = false := by rw [beq_eq_false_iff_ne]; exact h
   rw [this, if_neg h]; rfl
theorem getK_ixm : ∀ (K : List Key) (n : Nat) (k : Key), getK (ixm n K) k = (loc K k).map fun i => ((n + i : Nat) : Int)
 | [], _, _ => rfl
 | x :: K, n, k => by
  rw [ixm_cons, loc_cons]
  show (if k = x then some (n : Int) else getK (ixm (n + 1) K) k) = _
  rw [getK_ixm K (n + 1) k]
  by_cases h : k = x
  · simp [h]
  · rw [if_neg h, if_neg h]
    cases loc K k with
    | none => rfl
    | some i =>
     show some ((n + 1 + i : Nat) : Int) = some ((n + (i + 1) : Nat) : Int)
     congr 2; omega
theorem putK_ixm : ∀ (K : List Key) (n : Nat) (k : Key), loc K k = none → putK (ixm n K) k ((n + K.length : Nat) : Int) = ixm n (K ++ [k])
 | [], n, k, _ => rfl
 | x :: K, n, k, h => by
  rw [loc_cons] at h
  have hk : ¬ k = x := fun e => by rw [if_pos e] at h; cases h
  rw [if_neg hk] at h
  have h' : loc K k = none := by cases e : loc K k with
   | none => rfl
   | some i => rw [e] at h; cases h
  rw [ixm_cons, List.cons_append, ixm_cons]
  show (if k = x then _ else _ :: putK (ixm (n + 1) K) k _) = _
  rw [if_neg hk, show n + (x :: K).length = (n + 1) + K.length from by simp only [List.length_cons]; omega, putK_ixm K (n + 1) k h']
theorem mget_ixm (K : List Key) {k : Key} (hw : kwI2 k = true) : mget kwI2 (ixm 0 K) k (0 : Int) = some (match loc K k with | some i => ((i : Int), true) | none => (0, false)) := by
 unfold mget
 rw [if_pos hw, getK_ixm]
 cases loc K k with
 | none => rfl
 | some i => simp
theorem mset_ixm {K : List Key} {k : Key} (hw : kwI2 k = true) (h : loc K k = none) : mset kwI2 (ixm 0 K) k (K.length : Int) = some (ixm 0 (K ++ [k])) := by
 unfold mset
 rw [if_pos hw]
 have := putK_ixm K 0 k h
 rw [Nat.zero_add] at this
 rw [this]
theorem kw_in {k : Key} (h1 : 0 ≤ k.1) (h2 : k.1 ≤ 1000) (h3 : 0 ≤ k.2) (h4 : k.2 ≤ 1000) : kwI2 k = true := by
 unfold kwI2 wf2
 simp only [decide_eq_true_eq]
 omega
theorem addK_len (K : List Key) (k : Key) : K.length ≤ (addK K k).length ∧ (addK K k).length ≤ K.length + 1 := by
 unfold addK
 cases loc K k <;> simp
theorem addK_get {K : List Key} {k : Key} {i : Nat} {v : Key} (h : K[i]? = some v) : (addK K k)[i]? = some v := by
 unfold addK
 cases loc K k with
 | some _ => exact h
 | none =>
  have := (List.getElem?_eq_some_iff.1 h).1
  dsimp only
  rw [List.getElem?_append_left this]; exact h
theorem addK_mem {K : List Key} {k x : Key} (h : x ∈ addK K k) : x ∈ K ∨ x = k := by
 unfold addK at h
 cases e : loc K k with
 | some _ => rw [e] at h; exact .inl h
 | none => rw [e] at h; simpa using h
theorem loc_some {K : List Key} {k : Key} {i : Nat} (h : loc K k = some i) : K[i]? = some k := by
 unfold loc at h
 obtain ⟨h1, h2, h3⟩ := List.findIdx?_eq_some_iff_getElem.1 h
 have : k = K[i] := by simpa using h2
 rw [List.getElem?_eq_getElem h1, ← this]
theorem loc_none {K : List Key} {k : Key} (h : loc K k = none) : k ∉ K := fun hm => by
 unfold loc at h
 rw [List.findIdx?_eq_none_iff] at h
 have := h k hm
 simp at this
theorem atK_get (K : List Key) (k : Key) : 0 ≤ atK K k ∧ (addK K k)[(atK K k).toNat]? = some k := by
 unfold atK addK
 cases h : loc K k with
 | none => exact ⟨by dsimp only; omega, by dsimp only; rw [Int.toNat_natCast]; simp⟩
 | some i => exact ⟨by dsimp only; omega, by dsimp only; rw [Int.toNat_natCast]; exact loc_some h⟩
theorem addK_nodup {K : List Key} (hn : K.Nodup) (k : Key) : (addK K k).Nodup := by
 unfold addK
 cases h : loc K k with
 | none =>
  dsimp only
  refine List.nodup_append.2 ⟨hn, by simp, fun a ha b hb e => ?_⟩
  rw [List.mem_singleton] at hb
  exact loc_none h (hb ▸ e ▸ ha)
 | some i => exact hn
def rowK (ky : Int → Key) (K : List Key) : Nat → List Key × List Int
 | 0 => (K, [])
 | j + 1 => (addK (rowK ky K j).1 (ky j), (rowK ky K j).2 ++ [atK (rowK ky K j).1 (ky j)])
structure RowK (ky : Int → Key) (K : List Key) (j : Nat) (K' : List Key) (row : List Int) : Prop where
 pre : ∀ (i : Nat) v, K[i]? = some v → K'[i]? = some v
 len : K.length ≤ K'.length
 le : K'.length ≤ K.length + j
 nod : K.Nodup → K'.Nodup
 rl : row.length = j
 at_ : ∀ i : Nat, i < j → ∃ x, row[i]? = some x ∧ 0 ≤ x ∧ K'[x.toNat]? = some (ky i)
 mem : ∀ v ∈ K', v ∈ K ∨ ∃ i : Nat, i < j ∧ v = ky i
theorem rowK_ok (ky : Int → Key) (K : List Key) : ∀ j, RowK ky K j (rowK ky K j).1 (rowK ky K j).2
 | 0 => ⟨fun _ _ h => h, Nat.le_refl _, Nat.le_refl _, id, rfl, fun i hi => absurd hi (Nat.not_lt_zero i), fun v h => .inl h⟩
 | j + 1 => by
  have h := rowK_ok ky K j
  unfold rowK
  generalize rowK ky K j = F at *
  have hl := addK_len F.1 (ky j)
  obtain ⟨a0, a1⟩ := atK_get F.1 (ky j)
  refine ⟨fun i v hv => addK_get (h.pre i v hv), Nat.le_trans h.len hl.1, ?_, fun hn => addK_nodup (h.nod hn) _, by simp [h.rl], fun i hi => ?_, fun v hv => ?_⟩
  · have := h.le; dsimp only; omega
  · by_cases e : i = j
    · subst e
      refine ⟨_, by rw [← h.rl]; simp, a0, a1⟩
    · obtain ⟨x, x1, x2, x3⟩ := h.at_ i (by omega)
      have hix := (List.getElem?_eq_some_iff.1 x1).1
      exact ⟨x, by rw [List.getElem?_append_left hix]; exact x1, x2, addK_get x3⟩
  · rcases addK_mem hv with hv | hv
    · rcases h.mem v hv with k | ⟨i, hi, e⟩
      · exact .inl k
      · exact .inr ⟨i, by omega, e⟩
    · exact .inr ⟨j, by omega, hv⟩
structure Prod (ky : Key → Int → Key) (k : Nat) (K : List Key) (i : Nat) (R : List (List Int)) : Prop where
 nod : K.Nodup
 zero : K[0]? = some (0, 0)
 il : i ≤ K.length
 rl : R.length = i
 row : ∀ (j : Nat) r, R[j]? = some r → r.length = k ∧ ∃ v, K[j]? = some v ∧ ∀ x : Nat, x < k → ∃ y, r[x]? = some y ∧ 0 ≤ y ∧ K[y.toNat]? = some (ky v x)
 src : ∀ (q : Nat) u, K[q]? = some u → q = 0 ∨ ∃ (j x : Nat) (v : Key), j < q ∧ j < i ∧ K[j]? = some v ∧ x < k ∧ u = ky v x
theorem Prod.init (ky : Key → Int → Key) (k : Nat) : Prod ky k [(0, 0)] 0 [] := ⟨by simp, rfl, by simp, rfl, fun j r h => by simp at h, fun q u h => by
 cases q with
 | zero => exact .inl rfl
 | succ q => simp at h⟩
theorem Prod.step {ky : Key → Int → Key} {k : Nat} {K : List Key} {i : Nat} {R : List (List Int)} (h : Prod ky k K i R) {v : Key} (hv : K[i]? = some v) : Prod ky k (rowK (ky v) K k).1 (i + 1) (R ++ [(rowK (ky v) K k).2]) := by
 have r := rowK_ok (ky v) K k
 generalize rowK (ky v) K k = F at *
 have hi := (List.getElem?_eq_some_iff.1 (r.pre i v hv)).1
 refine ⟨r.nod h.nod, r.pre 0 _ h.zero, by omega, by simp [h.rl], fun j row hj => ?_, fun q u hq => ?_⟩
 rotate_left
 · have hiK := (List.getElem?_eq_some_iff.1 hv).1
   by_cases e : q < K.length
   · have hq' : K[q]? = some K[q] := List.getElem?_eq_getElem e
     have := r.pre q _ hq'
     rw [hq] at this
     have e' : u = K[q] := Option.some.inj this
     rcases h.src q _ hq' with h0 | ⟨j, x, v', a1, a2, a3, a4, a5⟩
     · exact .inl h0
     · exact .inr ⟨j, x, v', a1, by omega, r.pre _ _ a3, a4, by rw [e', a5]⟩
   · rcases r.mem u (List.mem_of_getElem? hq) with hm | ⟨x, x1, x2⟩
     · obtain ⟨q', hq'⟩ := List.getElem?_of_mem hm
       have hl' := (List.getElem?_eq_some_iff.1 hq').1
       have hq2 := r.pre q' u hq'
       have := (List.getElem?_inj (by have := (List.getElem?_eq_some_iff.1 hq2).1; exact this) (r.nod h.nod)).1 (hq2.trans hq.symm)
       omega
     · exact .inr ⟨i, x, v, by omega, Nat.lt_succ_self _, r.pre i v hv, x1, x2⟩
 by_cases e : j < R.length
 · rw [List.getElem?_append_left e] at hj
   obtain ⟨a, v', b, c⟩ := h.row j row hj
   refine ⟨a, v', r.pre j v' b, fun x hx => ?_⟩
   obtain ⟨y, y1, y2, y3⟩ := c x hx
   exact ⟨y, y1, y2, r.pre _ _ y3⟩
 · have : j = i := by
    have := (List.getElem?_eq_some_iff.1 hj).1
    rw [List.length_append] at this
    simp only [List.length_cons, List.length_nil] at this
    have := h.rl
    omega
   subst this
   rw [← h.rl] at hj
   simp at hj
   subst hj
   exact ⟨r.rl, v, r.pre _ _ hv, r.at_⟩
theorem keys_len {A B : Nat} {K : List Key} (hn : K.Nodup) (hk : ∀ v ∈ K, 0 ≤ v.1 ∧ v.1 < A ∧ 0 ≤ v.2 ∧ v.2 < B) : K.length ≤ A * B := by
 have hmul : ∀ a b : Int, a < b → a * B + B ≤ b * B := fun a b h => by
  have := Int.mul_le_mul_of_nonneg_right (show a + 1 ≤ b by omega) (show (0 : Int) ≤ (B : Int) by omega)
  rwa [Int.add_mul, Int.one_mul] at this
 have h := nodup_lenN (A * B) (K.map fun v => v.1 * B + v.2) (by
  rw [List.Nodup, List.pairwise_map]
  refine List.Pairwise.imp_of_mem (fun {a b} ha hb hne e => ?_) hn
  obtain ⟨a0, a1, a2, a3⟩ := hk a ha
  obtain ⟨b0, b1, b2, b3⟩ := hk b hb
  by_cases h1 : a.1 < b.1
  · have := hmul a.1 b.1 h1; omega
  · by_cases h2 : b.1 < a.1
    · have := hmul b.1 a.1 h2; omega
    · have e1 : a.1 = b.1 := by omega
      rw [e1] at e
      exact hne (Prod.ext e1 (by omega))) (fun x hx => by
  obtain ⟨v, hv, rfl⟩ := List.mem_map.1 hx
  obtain ⟨a0, a1, a2, a3⟩ := hk v hv
  have h0 : 0 ≤ v.1 * (B : Int) := Int.mul_nonneg a0 (by omega)
  have := hmul v.1 A a1
  have e : ((A * B : Nat) : Int) = (A : Int) * (B : Int) := by simp
  rw [e]
  omega)
 rwa [List.length_map] at h
def plK (part : Key → Int) (K : List Key) (S : List Int) : Nat → List Int
 | 0 => []
 | j + 1 => plK part K S j ++ (match K[j]? with | some v => if part v ∈ S then [(j : Int)] else [] | none => [])
theorem plK_mem (part : Key → Int) (K : List Key) (S : List Int) : ∀ (j : Nat) (z : Int), z ∈ plK part K S j ↔ ∃ i : Nat, i < j ∧ z = (i : Int) ∧ ∃ v, K[i]? = some v ∧ part v ∈ S
 | 0, z => by simp [plK]
 | j + 1, z => by
  unfold plK
  rw [List.mem_append, plK_mem part K S j]
  constructor
  · rintro (⟨i, h1, h2⟩ | h)
    · exact ⟨i, by omega, h2⟩
    · cases e : K[j]? with
      | none => rw [e] at h; cases h
      | some v =>
       rw [e] at h
       dsimp only at h
       by_cases hv : part v ∈ S
       · rw [if_pos hv, List.mem_singleton] at h
         exact ⟨j, by omega, h, v, e, hv⟩
       · rw [if_neg hv] at h; cases h
  · rintro ⟨i, h1, h2, v, h3, h4⟩
    by_cases e : i = j
    · subst e
      right
      rw [h3]
      dsimp only
      rw [if_pos h4, List.mem_singleton]
      exact h2
    · exact .inl ⟨i, by omega, h2, v, h3, h4⟩
theorem plK_asc (part : Key → Int) (K : List Key) (S : List Int) : ∀ j : Nat, Asc (plK part K S j)
 | 0 => List.Pairwise.nil
 | j + 1 => by
  unfold plK
  refine List.pairwise_append.2 ⟨plK_asc part K S j, ?_, fun a ha b hb => ?_⟩
  · cases K[j]? with
    | none => exact List.Pairwise.nil
    | some v => dsimp only; split <;> simp
  · obtain ⟨i, h1, h2, _⟩ := (plK_mem part K S j a).1 ha
    have hb' : b = (j : Int) := by
     cases e : K[j]? with
     | none => rw [e] at hb; cases hb
     | some v =>
      rw [e] at hb
      dsimp only at hb
      split at hb
      · simpa using hb
      · cases hb
    omega
theorem plK_len (part : Key → Int) (K : List Key) (S : List Int) : ∀ j : Nat, (plK part K S j).length ≤ j
 | 0 => Nat.le_refl _
 | j + 1 => by
  unfold plK
  have := plK_len part K S j
  rw [List.length_append]
  have : (match K[j]? with | some v => if part v ∈ S then [(j : Int)] else [] | none => [] : List Int).length ≤ 1 := by
   cases K[j]? with
   | none => simp
   | some v => dsimp only; split <;> simp
  omega
theorem plK_St (part : Key → Int) (K : List Key) (S : List Int) (j : Nat) : St j (plK part K S j) := ⟨plK_asc part K S j, fun x hx => by
 obtain ⟨i, h1, h2, _⟩ := (plK_mem part K S j x).1 hx
 omega⟩
end Go.Proofs.Ytcmamhmpoinmnaa
set_option linter.unusedVariables false
set_option linter.unusedSimpArgs false
namespace Go.Proofs.Ytcmamhmpoinmnaa
open Go Go.Wk Go.Proofs
def b01 (b : Bool) : Int := if b then 1 else 0
theorem b01_in (b : Bool) : 0 ≤ b01 b ∧ b01 b ≤ 1 := by cases b <;> decide
def mx (x y : Int) : Int := if x < y then y else x
def monNext (k q : Int) (a b : Bool) : Int :=
 if k = 1 then mx q (1 - b01 a)
 else if k = 2 then (if q = 2 ∨ (q = 1 ∧ b = false) then 2 else b01 a)
 else if k = 3 then (if b = true then 0 else mx q (b01 a))
 else if k = 4 then b01 a
 else if k = 5 then 1 - b01 a
 else if k = 6 then mx q (b01 a)
 else 2 * b01 a + b01 b
def monStates (k : Int) : Nat := if k = 2 then 3 else if k = 7 then 4 else 2
def monPair (k : Int) : Pair :=
 if k = 1 ∨ k = 5 then ⟨[1], []⟩ else if k = 2 then ⟨[2], []⟩ else if k = 3 then ⟨[1], [0]⟩ else if k = 4 then ⟨[0, 1], [1]⟩ else if k = 6 then ⟨[0], []⟩ else ⟨[2, 3], [1, 3]⟩
def numsN (n : Nat) : List Int := (List.range n).map (fun i : Nat => (i : Int))
theorem numsN_succ (n : Nat) : numsN (n + 1) = numsN n ++ [(n : Int)] := by simp [numsN, List.range_succ]
theorem numsN_len (n : Nat) : (numsN n).length = n := by simp [numsN]
def monRow (c : Clause) (n : Nat) (q : Int) : List Int := (numsN n).map fun x => monNext c.Kind q (decide (x ∈ c.A)) (decide (x ∈ c.B))
def monD (c : Clause) (n : Nat) : Det := ⟨(numsN (monStates c.Kind)).map (monRow c n), [monPair c.Kind]⟩
theorem kinds {k : Int} (h1 : 1 ≤ k) (h2 : k ≤ 7) : k = 1 ∨ k = 2 ∨ k = 3 ∨ k = 4 ∨ k = 5 ∨ k = 6 ∨ k = 7 := by omega
theorem monNext_in {k q : Int} (h1 : 1 ≤ k) (h2 : k ≤ 7) (q0 : 0 ≤ q) (q1 : q < monStates k) (a b : Bool) : 0 ≤ monNext k q a b ∧ monNext k q a b < monStates k := by
 rcases kinds h1 h2 with h | h | h | h | h | h | h <;> subst h <;> cases a <;> cases b <;> simp only [monNext, monStates, mx, b01] at * <;> simp at * <;> (repeat' split) <;> omega
section
variable {p : Sig} (hs : sigOk p = true) {c : Clause} (hb : Clause.bd c) (hc : clauseOk p c = true)
include hs hc
omit hs in
theorem kind_in : 1 ≤ c.Kind ∧ c.Kind ≤ 7 := by
 unfold clauseOk at hc
 simp only [Bool.and_eq_true, decide_eq_true_eq] at hc
 exact ⟨hc.1.1.1.1, hc.1.1.1.2⟩
omit hs in
theorem s_next_eq {q : Int} (q0 : 0 ≤ q) (q1 : q ≤ 10) (x : Int) : s_l25Next c q x = some (monNext c.Kind q (decide (x ∈ c.A)) (decide (x ∈ c.B))) := by
 obtain ⟨k1, k2⟩ := kind_in hc
 unfold s_l25Next
 rw [s_hasM, Option.bind_some, s_hasM]
 have hf : ∀ b : Bool, s_l1Flag b = some (b01 b) := fun b => by unfold s_l1Flag; cases b <;> rfl
 have hmx : ∀ x y : Int, s_l1Max x y = some (mx x y) := fun x y => by
  unfold s_l1Max mx
  by_cases h : y < x
  · rw [decide_eq_true h, if_neg (by omega)]; rfl
  · rw [decide_eq_false h]
    by_cases h' : x < y
    · rw [if_pos h']; rfl
    · rw [if_neg h']
      have : x = y := by omega
      subst this; rfl
 rw [hf, Option.bind_some, Option.bind_some, hf, Option.bind_some]
 generalize decide (x ∈ c.A) = a
 generalize decide (x ∈ c.B) = b
 have w1 : IntKind.i64.wrap (1 - b01 a) = 1 - b01 a := by have := b01_in a; exact wr' (by omega) (by omega)
 have w2 : IntKind.i64.wrap (2 * b01 a) = 2 * b01 a := by have := b01_in a; exact wr' (by omega) (by omega)
 have w3 : IntKind.i64.wrap (2 * b01 a + b01 b) = 2 * b01 a + b01 b := by have := b01_in a; have := b01_in b; exact wr' (by omega) (by omega)
 rw [w1, w2, w3]
 rcases kinds k1 k2 with h | h | h | h | h | h | h <;> rw [h] <;> unfold monNext
 · simp [hmx]
 · by_cases hq2 : q = 2
   · subst hq2; simp
   · by_cases hq1 : q = 1
     · subst hq1; cases b <;> simp [b01]
     · have e1 : (q == 2) = false := by simpa using hq2
       have e2 : (q == 1) = false := by simpa using hq1
       simp [e1, e2, hq2, hq1]
 · cases b <;> simp [b01, hmx]
 · simp
 · simp
 · simp [hmx]
 · simp
omit hs in
theorem i_next_eq {q : Int} (q0 : 0 ≤ q) (q1 : q ≤ 10) (a b : Bool) : i_monitorStep c.Kind q a b = some (monNext c.Kind q a b) := by
 obtain ⟨k1, k2⟩ := kind_in hc
 unfold i_monitorStep
 have e1 : (bif a then some (1 : Int) else some 0) = some (b01 a) := by cases a <;> rfl
 have e2 : (bif b then some (true, (1 : Int)) else some (false, (0 : Int))) = some (b, b01 b) := by cases b <;> rfl
 rw [e1, e2, Option.bind_some, Option.bind_some]
 dsimp only
 have w1 : IntKind.i64.wrap (1 - b01 a) = 1 - b01 a := by have := b01_in a; exact wr' (by omega) (by omega)
 have w2 : IntKind.i64.wrap (2 * b01 a) = 2 * b01 a := by have := b01_in a; exact wr' (by omega) (by omega)
 have w3 : IntKind.i64.wrap (2 * b01 a + b01 b) = 2 * b01 a + b01 b := by have := b01_in a; have := b01_in b; exact wr' (by omega) (by omega)
 rw [w1, w2, w3]
 rcases kinds k1 k2 with h | h | h | h | h | h | h <;> rw [h] <;> unfold monNext mx
 · simp
 · by_cases hq2 : q = 2
   · subst hq2; simp
   · by_cases hq1 : q = 1
     · subst hq1; cases b <;> simp [b01]
     · have e1 : (q == 2) = false := by simpa using hq2
       have e2 : (q == 1) = false := by simpa using hq1
       simp [e1, e2, hq2, hq1]
 · cases b <;> simp [b01]
 · simp
 · simp
 · simp
 · simp
include hb
theorem s_monitor {n : Nat} (hn : ltr p = n) : s_MonitorOf p c = some (monD c n) := by
 obtain ⟨k1, k2⟩ := kind_in hc
 obtain ⟨l1, l2⟩ := ltr_in hs
 have hst : s_l25States c.Kind = some ((monStates c.Kind : Nat) : Int) := by
  unfold s_l25States monStates
  rcases kinds k1 k2 with h | h | h | h | h | h | h <;> rw [h] <;> rfl
 have hpr : s_l25Pair c.Kind = some (monPair c.Kind) := by
  unfold s_l25Pair monPair
  rcases kinds k1 k2 with h | h | h | h | h | h | h <;> rw [h] <;> rfl
 have hns : monStates c.Kind ≤ 4 := by unfold monStates; (repeat' split) <;> omega
 unfold s_MonitorOf
 rw [s_ClauseOk_eq hs hb, hc, Option.bind_some, Bool.not_true, cond_false, hpr, Option.bind_some]
 obtain ⟨o, w1, w2⟩ := while_out (f := s_MonitorOf_b0 p c) (fun j (s : Int × List (List Int)) => s.1 = (j : Int) ∧ j ≤ monStates c.Kind ∧ s.2 = (numsN j).map (monRow c n)) (fun _ => False) (fun s => s.2 = (numsN (monStates c.Kind)).map (monRow c n)) (monStates c.Kind) (fun j s ⟨a1, a2, a3⟩ => by
  obtain ⟨q, xs⟩ := s
  dsimp only at a1 a3
  subst a1
  unfold s_MonitorOf_b0
  dsimp only
  rw [hst, Option.bind_some]
  by_cases hlt : j < monStates c.Kind
  · obtain ⟨o2, v1, v2⟩ := while_out (f := s_MonitorOf_b2 p c ((j : Int), xs)) (fun i (s : List Int × Int) => s.2 = (i : Int) ∧ i ≤ n ∧ s.1 = (numsN i).map fun x => monNext c.Kind (j : Int) (decide (x ∈ c.A)) (decide (x ∈ c.B))) (fun _ => False) (fun s => s.1 = monRow c n (j : Int)) n (fun i s ⟨b1, b2, b3⟩ => by
     obtain ⟨ys, x⟩ := s
     dsimp only at b1 b3
     subst b1
     unfold s_MonitorOf_b2
     dsimp only
     rw [s_LettersOf_eq hs, Option.bind_some, hn]
     by_cases hi : i < n
     · rw [decide_eq_true (show (i : Int) < (n : Int) by omega), cond_true, s_next_eq hc (by omega) (by omega), Option.bind_some, app1 (by rw [b3, List.length_map, numsN_len]; omega) rfl, Option.bind_some]
       refine ⟨_, rfl, hi, by dsimp only; rw [wr' (by omega) (by omega)]; omega, by omega, ?_⟩
       dsimp only
       rw [b3, numsN_succ, List.map_append]; rfl
     · have : i = n := by omega
       subst this
       rw [decide_eq_false (Int.lt_irrefl _), cond_false]
       exact ⟨_, rfl, b3⟩) (2 ^ 64) 0 ([], 0) (by omega) ⟨rfl, Nat.zero_le _, rfl⟩ (by omega)
    match o2, v2 with
    | .inr s, v2 =>
     have v2 : s.1 = monRow c n (j : Int) := v2
     rw [decide_eq_true (show (j : Int) < ((monStates c.Kind : Nat) : Int) by omega), cond_true, v1, Option.bind_some, aft_inr, app1 (by rw [a3, List.length_map, numsN_len]; omega) rfl, Option.bind_some]
     refine ⟨_, rfl, hlt, by dsimp only; rw [wr' (by omega) (by omega)]; omega, by omega, ?_⟩
     dsimp only
     rw [a3, v2, numsN_succ, List.map_append]; rfl
  · have : j = monStates c.Kind := by omega
    rw [this] at a3 ⊢
    rw [decide_eq_false (Int.lt_irrefl _), cond_false]
    exact ⟨_, rfl, a3⟩) (2 ^ 64) 0 (0, []) (by omega) ⟨rfl, Nat.zero_le _, rfl⟩ (by omega)
 match o, w2 with
 | .inr s, w2 =>
  have w2 : s.2 = (numsN (monStates c.Kind)).map (monRow c n) := w2
  rw [w1, Option.bind_some, aft_inr, w2]; rfl
omit hb in
theorem i_monitor {n : Nat} (hn : ltr p = n) : i_monitorOf p c = some (monD c n) := by
 obtain ⟨k1, k2⟩ := kind_in hc
 obtain ⟨l1, l2⟩ := ltr_in hs
 have hns : monStates c.Kind ≤ 4 := by unfold monStates; (repeat' split) <;> omega
 have hrow : ∀ q : Nat, q ≤ 10 → cntM (i_monitorOf_b3 c (q : Int)) n 0 [] = some (.inr (monRow c n (q : Int))) := fun q hq => by
  obtain ⟨s, h1, h2⟩ := cnt_inv (f := i_monitorOf_b3 c (q : Int)) (fun i s => s = (numsN i).map fun x => monNext c.Kind (q : Int) (decide (x ∈ c.A)) (decide (x ∈ c.B))) n (s := []) rfl (fun i s hi hs' => by
   subst hs'
   have hcon : ∀ l : List Int, slices_Contains_I_int64 l (i : Int) = some (decide ((i : Int) ∈ l)) := fun l => by
    rw [slices_Contains_I_int64_eq]
    congr 1
    rw [Bool.eq_iff_iff, List.any_eq_true, decide_eq_true_eq]
    exact ⟨fun ⟨y, hy, e⟩ => (show (i : Int) = y by simpa using e) ▸ hy, fun h => ⟨_, h, by simp⟩⟩
   unfold i_monitorOf_b3
   rw [hcon, hcon, Option.bind_some, Option.bind_some, i_next_eq hc (by omega) (by omega), Option.bind_some, app1 (by rw [List.length_map, numsN_len]; omega) rfl, Option.bind_some]
   exact ⟨_, rfl, by rw [numsN_succ, List.map_append]; rfl⟩)
  rw [h1, h2]; rfl
 have hall : ∀ m : Nat, m ≤ 4 → cntM (i_monitorOf_b1 p c) m 0 [] = some (.inr ((numsN m).map (monRow c n))) := fun m hm => by
  obtain ⟨s, h1, h2⟩ := cnt_inv (f := i_monitorOf_b1 p c) (fun i s => s = (numsN i).map (monRow c n)) m (s := []) rfl (fun i s hi hs' => by
   subst hs'
   have hr : rng (n : Int) = some () := by unfold rng; rw [if_pos (by omega)]
   unfold i_monitorOf_b1
   rw [i_lettersOf_eq hs, Option.bind_some, hn, hr, Option.bind_some, Int.sub_zero, Int.toNat_natCast, hrow i (by omega), Option.bind_some, aft_inr, app1 (by rw [List.length_map, numsN_len]; omega) rfl, Option.bind_some]
   exact ⟨_, rfl, by rw [numsN_succ, List.map_append]; rfl⟩)
  rw [h1, h2]
 unfold i_monitorOf monD monPair monStates
 rcases kinds k1 k2 with h | h | h | h | h | h | h <;> rw [h]
 · have := hall 2 (by omega)
   simp [rng, this, aft_inr]
 · have := hall 3 (by omega)
   simp [rng, this, aft_inr]
 · have := hall 2 (by omega)
   simp [rng, this, aft_inr]
 · have := hall 2 (by omega)
   simp [rng, this, aft_inr]
 · have := hall 2 (by omega)
   simp [rng, this, aft_inr]
 · have := hall 2 (by omega)
   simp [rng, this, aft_inr]
 · have := hall 4 (by omega)
   simp [rng, this, aft_inr]
omit hs hb in
theorem monD_ok {n : Nat} (hn : ltr p = n) : detOk p (monD c n) = true ∧ (monD c n).Pairs.length = 1 := by
 obtain ⟨k1, k2⟩ := kind_in hc
 have hl : (monD c n).Next.length = monStates c.Kind := by
  show ((numsN _).map _).length = _
  rw [List.length_map, numsN_len]
 refine ⟨?_, rfl⟩
 unfold detOk
 rw [hl]
 have hns : 1 ≤ monStates c.Kind ∧ monStates c.Kind ≤ 4 := by unfold monStates; (repeat' split) <;> omega
 have hp : pairsOk (monD c n).Pairs (monStates c.Kind : Int) = true := by
  show pairsOk [monPair c.Kind] _ = true
  unfold monPair monStates
  rcases kinds k1 k2 with h | h | h | h | h | h | h <;> rw [h] <;> decide
 have hr : ((monD c n).Next.all (detRow p (monStates c.Kind : Int))) = true := by
  rw [List.all_eq_true]
  intro row hrow
  obtain ⟨q, hq, rfl⟩ := List.mem_map.1 (show row ∈ (numsN (monStates c.Kind)).map (monRow c n) from hrow)
  obtain ⟨i, hi, rfl⟩ := List.mem_map.1 hq
  rw [List.mem_range] at hi
  unfold detRow monRow
  rw [List.length_map, numsN_len, Bool.and_eq_true, List.all_eq_true]
  refine ⟨by rw [beq_iff_eq]; unfold ltd; unfold ltr at hn; exact hn.symm, fun x hx => ?_⟩
  obtain ⟨y, _, rfl⟩ := List.mem_map.1 hx
  exact inR_iff.2 (monNext_in k1 k2 (by omega) (by omega) _ _)
 rw [hp, hr, decide_eq_true (by omega), decide_eq_true (by omega)]; rfl
end
end Go.Proofs.Ytcmamhmpoinmnaa
