/- The functions on data. By program. -/
import Derived.Test.YtpcjbkgbnoocaaaGreatTypesEI
import Derived.Test.YtpcjbkgbnoocaaaGreatCompEI
set_option linter.unusedVariables false
set_option linter.unusedSimpArgs false
open Option renaming bind → ds
open Int renaming toNat → vH
namespace Go.Proofs.YtpcjbkgbnoocaaaGreat
open Go Go.Wk Go.Proofs
set_option maxRecDepth 100000
set_option maxHeartbeats 1000000
def gR (p0:(List Int)) (p1:Int):Option (Int):=
 bif decide ((IntKind.i64.wrap (p1-(p0.length:Int)))<0) then
  some ((-1):Int)
 else
  some ((IntKind.i64.wrap (p1-(p0.length:Int))):Int)
def jq (p0:Clause) (p1:Int):Option (Int):=
 ds (gR p0.A p1) λx8=>
 bif decide (x8<0) then
  some ((-1):Int)
 else
  ds (gR p0.B x8) λx14=>
  bif decide (x14<0) then
   some ((-1):Int)
  else
   some (x14:Int)
def eP (p0:(List Clause)) (v5:Int) (s1:Int):Option (Int⊕((Int)⊕(Int))):=
 ds (idx p0 v5) λx20=>
 ds (jq x20 s1) λx23=>
 bif decide (x23<0) then
  some (.inl ((-1):Int))
 else
  some (.inr (.inr (x23:Int)))
def iq (p0:(List Clause)) (p1:Int):Option (Int):=
 bif decide ((IntKind.i64.wrap (p1-(p0.length:Int)))<0) then
  some ((-1):Int)
 else
  ds (cntM (eP p0) p0.length 0 ((IntKind.i64.wrap (p1-(p0.length:Int))):Int)) λq2=>
  aft (λr=>some r) (λs3=>
   some (s3:Int)) q2
def mu (p0:Sig):Option (Sig):=
 some ((⟨p0.In,p0.Out⟩:Sig):Sig)
def fl (p0:(List Int)) (v4:Int) (s1:(List Int)):Option ((List Int)⊕(((List Int))⊕((List Int)))):=
 ds (idx p0 v4) λx18=>
 ds (idx s1 v4) λx20=>
 ds (setI s1 v4 x18) λy10=>
 some (.inr (.inr (y10:(List Int))))
def gT (p0:(List Int)):Option ((List Int)):=
 ds (mkS 8 (p0.length:Int) (0:Int)) λx7=>
 ds (cntM (fl p0) p0.length 0 (x7:(List Int))) λq2=>
 aft (λr=>some r) (λs3=>
  some (s3:(List Int))) q2
def jo (p0:Clause):Option (Clause):=
 ds (gT p0.A) λx9=>
 ds (gT p0.B) λx13=>
 some ((⟨p0.Kind,x9,x13⟩:Clause):Clause)
def eC (p0:(List Clause)) (v4:Int) (s1:(List Clause)):Option ((List Clause)⊕(((List Clause))⊕((List Clause)))):=
 ds (idx p0 v4) λx18=>
 ds (jo x18) λx20=>
 ds (idx s1 v4) λx21=>
 ds (setI s1 v4 (x20:Clause)) λy12=>
 some (.inr (.inr (y12:(List Clause))))
def eA (p0:(List Clause)):Option ((List Clause)):=
 ds (mkS 56 (p0.length:Int) ((⟨0,([]:List Int),([]:List Int)⟩:Clause):Clause)) λx7=>
 ds (cntM (eC p0) p0.length 0 (x7:(List Clause))) λq2=>
 aft (λr=>some r) (λs3=>
  some (s3:(List Clause))) q2
def eo (p0:Int) (p1:Int) (p2:Int):Option (Bool):=
 ds (bif decide (p1<=p0) then
 some (decide (p0<=p2))
 else
 some false) λp14=>
 some (p14:Bool)
def iH (p0:Sig):Option (Bool):=
 ds (eo p0.In 1 2) λx5=>
 ds (bif x5 then
 ds (eo p0.Out 1 2) λx9=>
 some x9
 else
 some false) λp10=>
 some (p10:Bool)
def ef  (s1:Int×Int):Option (Int⊕((Int×Int)⊕(Int×Int))):=
 bif decide (0<s1.1) then
  some (.inr (.inr (((IntKind.i64.wrap (s1.1-1)):Int),((IntKind.i64.wrap (s1.2 * 2)):Int))))
 else
  some (.inr (.inl ((s1.1:Int),(s1.2:Int))))
def cY (p0:Int):Option (Int):=
 ds (whileM ef (2 ^ 64) ((p0:Int),(1:Int))) λq2=>
 aft (λr=>some r) (λs3=>
  some (s3.2:Int)) q2
def cH (p0:Sig):Option (Int):=
 ds (iH p0) λx4=>
 bif (!x4) then
  some (0:Int)
 else
  ds (cY (IntKind.i64.wrap (p0.In+p0.Out))) λx11=>
  some (x11:Int)
def gl (p0:(List Int)) (p1:Int) (v5:Int) (s1:Unit):Option (Bool⊕((Unit)⊕(Unit))):=
 ds (idx p0 v5) λx14=>
 ds (eo x14 0 (IntKind.i64.wrap (p1-1))) λx18=>
 ds (bif (!x18) then
 some true
 else
 ds (bif decide (0<v5) then
 ds (idx p0 v5) λx26=>
 ds (idx p0 (IntKind.i64.wrap (v5-1))) λx31=>
 some (decide (x26<=x31))
 else
 some false) λp34=>
 some p34) λp35=>
 bif p35 then
  some (.inl (false:Bool))
 else
  some (.inr (.inr ()))
def j6 (p0:(List Int)) (p1:Int):Option (Bool):=
 ds (cntM (gl p0 p1) p0.length 0 ()) λq2=>
 aft (λr=>some r) (λs3=>
  some (true:Bool)) q2
def jM (p0:(List Int)) (p1:Int):Option (Bool):=
 ds (bif decide ((p0.length:Int)<=p1) then
 ds (j6 p0 p1) λx12=>
 some x12
 else
 some false) λp13=>
 some (p13:Bool)
def lP (p0:Int):Option (Bool):=
 ds (bif (p0==2) then
 some true
 else
 some (p0==3)) λp8=>
 ds (bif p8 then
 some true
 else
 some (p0==7)) λp12=>
 some (p12:Bool)
def gO (p0:Sig) (p1:Clause):Option (Bool):=
 ds (iH p0) λx7=>
 ds (bif (!x7) then
 some true
 else
 ds (eo p1.Kind 1 7) λx12=>
 some (!x12)) λp14=>
 bif p14 then
  some (false:Bool)
 else
  ds (cH p0) λx16=>
  ds (jM p1.A x16) λx20=>
  ds (bif x20 then
  ds (jM p1.B x16) λx25=>
  some x25
  else
  some false) λp26=>
  ds (bif p26 then
  ds (lP p1.Kind) λx30=>
  ds (bif x30 then
  some true
  else
  some ((p1.B.length:Int)==0)) λp36=>
  some p36
  else
  some false) λp37=>
  some (p37:Bool)
def eG (p0:Sig) (p1:(List Clause)) (v5:Int) (s1:Unit):Option (Bool⊕((Unit)⊕(Unit))):=
 ds (idx p1 v5) λx23=>
 ds (gO p0 x23) λx25=>
 bif (!x25) then
  some (.inl (false:Bool))
 else
  some (.inr (.inr ()))
def eJ (p0:Sig) (p1:(List Clause)):Option (Bool):=
 ds (iH p0) λx7=>
 ds (bif (!x7) then
 some true
 else
 some (decide (3<(p1.length:Int)))) λp13=>
 bif p13 then
  some (false:Bool)
 else
  ds (cntM (eG p0 p1) p1.length 0 ()) λq2=>
  aft (λr=>some r) (λs3=>
   some (true:Bool)) q2
def kh (p0:Int):Option (Pair):=
 ds (bif (p0==1) then
  some (true:Bool)
 else
  some ((p0==5):Bool)) λq1=>
 bif q1 then
  some ((⟨([1]:List Int),([]:List Int)⟩:Pair):Pair)
 else
  bif (p0==2) then
   some ((⟨([2]:List Int),([]:List Int)⟩:Pair):Pair)
  else
   bif (p0==3) then
    some ((⟨([1]:List Int),([0]:List Int)⟩:Pair):Pair)
   else
    bif (p0==4) then
     some ((⟨([0,1]:List Int),([1]:List Int)⟩:Pair):Pair)
    else
     bif (p0==6) then
      some ((⟨([0]:List Int),([]:List Int)⟩:Pair):Pair)
     else
      some ((⟨([2,3]:List Int),([1,3]:List Int)⟩:Pair):Pair)
def iB (p0:Int):Option (Int):=
 bif (p0==2) then
  some (3:Int)
 else
  bif (p0==7) then
   some (4:Int)
  else
   some (2:Int)
def jA (p0:(List Int)) (p1:Int) (v5:Int) (s1:Unit):Option (Bool⊕((Unit)⊕(Unit))):=
 ds (idx p0 v5) λx14=>
 bif (x14==p1) then
  some (.inl (true:Bool))
 else
  some (.inr (.inr ()))
def gY (p0:(List Int)) (p1:Int):Option (Bool):=
 ds (cntM (jA p0 p1) p0.length 0 ()) λq2=>
 aft (λr=>some r) (λs3=>
  some (false:Bool)) q2
def eb (p0:Bool):Option (Int):=
 bif p0 then
  some (1:Int)
 else
  some (0:Int)
def iK (p0:Int) (p1:Int):Option (Int):=
 bif decide (p1<p0) then
  some (p0:Int)
 else
  some (p1:Int)
def jW (p0:Clause) (p1:Int) (p2:Int):Option (Int):=
 ds (gY p0.A p2) λx12=>
 ds (eb x12) λx13=>
 ds (gY p0.B p2) λx17=>
 ds (eb x17) λx18=>
 bif (p0.Kind==1) then
  ds (iK p1 (IntKind.i64.wrap (1-x13))) λx26=>
  some (x26:Int)
 else
  bif (p0.Kind==2) then
   ds (bif (p1==2) then
   some true
   else
   ds (bif (p1==1) then
   some (x18==0)
   else
   some false) λp37=>
   some p37) λp38=>
   bif p38 then
    some (2:Int)
   else
    some (x13:Int)
  else
   bif (p0.Kind==3) then
    bif (x18==1) then
     some (0:Int)
    else
     ds (iK p1 x13) λx46=>
     some (x46:Int)
   else
    bif (p0.Kind==4) then
     some (x13:Int)
    else
     bif (p0.Kind==5) then
      some ((IntKind.i64.wrap (1-x13)):Int)
     else
      bif (p0.Kind==6) then
       ds (iK p1 x13) λx58=>
       some (x58:Int)
      else
       some ((IntKind.i64.wrap ((IntKind.i64.wrap (2 * x13))+x18)):Int)
def eT (p0:Sig) (p1:Clause) (s1:Int×(List (List Int))) (s4:(List Int)×Int):Option (Det⊕(((List Int)×Int)⊕((List Int)×Int))):=
 ds (cH p0) λx29=>
 bif decide (s4.2<x29) then
  ds (jW p1 s1.1 s4.2) λx37=>
  ds (appS 8 s4.1 ([x37]:List Int)) λx39=>
  some (.inr (.inr ((x39:(List Int)),((IntKind.i64.wrap (s4.2+1)):Int))))
 else
  some (.inr (.inl ((s4.1:(List Int)),(s4.2:Int))))
def eF (p0:Sig) (p1:Clause) (s1:Int×(List (List Int))):Option (Det⊕((Int×(List (List Int)))⊕(Int×(List (List Int))))):=
 ds (iB p1.Kind) λx22=>
 bif decide (s1.1<x22) then
  ds (whileM (eT p0 p1 s1) (2 ^ 64) ((([]:List Int):(List Int)),(0:Int))) λq5=>
  aft (λr=>some (.inl r)) (λs6=>
   ds (appS 24 s1.2 ([s6.1]:List (List Int))) λx44=>
   some (.inr (.inr (((IntKind.i64.wrap (s1.1+1)):Int),(x44:(List (List Int))))))) q5
 else
  some (.inr (.inl ((s1.1:Int),(s1.2:(List (List Int))))))
def io (p0:Sig) (p1:Clause):Option (Det):=
 ds (gO p0 p1) λx11=>
 bif (!x11) then
  some ((⟨([]:List (List Int)),([]:List Pair)⟩:Det):Det)
 else
  ds (kh p1.Kind) λx16=>
  ds (whileM (eF p0 p1) (2 ^ 64) ((0:Int),(([]:List (List Int)):(List (List Int))))) λq2=>
  aft (λr=>some r) (λs3=>
   some ((⟨s3.2,([x16]:List Pair)⟩:Det):Det)) q2
def fc (p0:(List Int)) (p1:Int) (v5:Int) (s1:Unit):Option (Bool⊕((Unit)⊕(Unit))):=
 ds (idx p0 v5) λx14=>
 ds (eo x14 0 (IntKind.i64.wrap (p1-1))) λx18=>
 bif (!x18) then
  some (.inl (false:Bool))
 else
  some (.inr (.inr ()))
def jg (p0:(List Int)) (p1:Int):Option (Bool):=
 ds (cntM (fc p0 p1) p0.length 0 ()) λq2=>
 aft (λr=>some r) (λs3=>
  some (true:Bool)) q2
def iM (p0:(List Int)) (p1:Int):Option (Bool):=
 ds (eo p1 0 256) λx6=>
 ds (bif x6 then
 ds (jM p0 p1) λx10=>
 some x10
 else
 some false) λp11=>
 some (p11:Bool)
def go (p0:(List Pair)) (p1:Int) (v5:Int) (s1:Unit):Option (Bool⊕((Unit)⊕(Unit))):=
 ds (idx p0 v5) λx22=>
 ds (iM x22.Ask p1) λx26=>
 ds (bif (!x26) then
 some true
 else
 ds (idx p0 v5) λx31=>
 ds (iM x31.Give p1) λx35=>
 some (!x35)) λp37=>
 bif p37 then
  some (.inl (false:Bool))
 else
  some (.inr (.inr ()))
def iP (p0:(List Pair)) (p1:Int):Option (Bool):=
 ds (eo p1 0 256) λx7=>
 ds (bif (!x7) then
 some true
 else
 some (decide (4<(p0.length:Int)))) λp13=>
 bif p13 then
  some (false:Bool)
 else
  ds (cntM (go p0 p1) p0.length 0 ()) λq2=>
  aft (λr=>some r) (λs3=>
   some (true:Bool)) q2
def jE (p0:Sig) (p1:Det) (v6:Int) (s1:Unit):Option (Bool⊕((Unit)⊕(Unit))):=
 ds (idx p1.Next v6) λx28=>
 ds (cH p0) λx32=>
 ds (bif ((x28.length:Int) !=x32) then
 some true
 else
 ds (idx p1.Next v6) λx38=>
 ds (jg x38 (p1.Next.length:Int)) λx41=>
 some (!x41)) λp43=>
 bif p43 then
  some (.inl (false:Bool))
 else
  some (.inr (.inr ()))
def gt (p0:Sig) (p1:Det):Option (Bool):=
 ds (iH p0) λx11=>
 ds (bif (!x11) then
 some true
 else
 ds (eo (p1.Next.length:Int) 1 48) λx15=>
 some (!x15)) λp17=>
 bif p17 then
  some (false:Bool)
 else
  ds (cntM (jE p0 p1) p1.Next.length 0 ()) λq2=>
  aft (λr=>some r) (λs3=>
   ds (iP p1.Pairs (p1.Next.length:Int)) λx47=>
   some (x47:Bool)) q2
def ft (p0:(List (List Int))) (p1:Int) (p2:Int) (v7:Int) (s1:Unit):Option (Int⊕((Unit)⊕(Unit))):=
 ds (idx p0 v7) λx16=>
 ds (idx x16 0) λx18=>
 ds (bif (x18==p1) then
 ds (idx p0 v7) λx25=>
 ds (idx x25 1) λx27=>
 some (x27==p2)
 else
 some false) λp31=>
 bif p31 then
  some (.inl (v7:Int))
 else
  some (.inr (.inr ()))
def iV (p0:(List (List Int))) (p1:Int) (p2:Int):Option (Int):=
 ds (cntM (ft p0 p1 p2) p0.length 0 ()) λq2=>
 aft (λr=>some r) (λs3=>
  some ((-1):Int)) q2
def fk (p0:(List Pair)) (p1:(List (List Int))) (p2:Int) (v8:Int) (v10:Int) (s4:(List Int)×(List Int)):Option ((List Pair)⊕(((List Int)×(List Int))⊕((List Int)×(List Int)))):=
 ds (idx p0 v8) λx27=>
 ds (idx p1 v10) λx32=>
 ds (idx x32 p2) λx35=>
 ds (gY x27.Ask x35) λx37=>
 ds (bif x37 then
  ds (appS 8 s4.1 ([v10]:List Int)) λx42=>
  some (x42:(List Int))
 else
  some (s4.1:(List Int))) λq7=>
 ds (idx p0 v8) λx46=>
 ds (idx p1 v10) λx51=>
 ds (idx x51 p2) λx54=>
 ds (gY x46.Give x54) λx56=>
 ds (bif x56 then
  ds (appS 8 s4.2 ([v10]:List Int)) λx61=>
  some (x61:(List Int))
 else
  some (s4.2:(List Int))) λq8=>
 some (.inr (.inr ((q7:(List Int)),(q8:(List Int)))))
def fx (p0:(List Pair)) (p1:(List (List Int))) (p2:Int) (v8:Int) (s1:(List Pair)):Option ((List Pair)⊕(((List Pair))⊕((List Pair)))):=
 ds (cntM (fk p0 p1 p2 v8) p1.length 0 ((([]:List Int):(List Int)),(([]:List Int):(List Int)))) λq5=>
 aft (λr=>some (.inl r)) (λs6=>
  ds (appS 48 s1 ([(⟨s6.1,s6.2⟩:Pair)]:List Pair)) λx66=>
  some (.inr (.inr (x66:(List Pair))))) q5
def gD (p0:(List Pair)) (p1:(List (List Int))) (p2:Int):Option ((List Pair)):=
 ds (cntM (fx p0 p1 p2) p0.length 0 (([]:List Pair):(List Pair))) λq2=>
 aft (λr=>some r) (λs3=>
  some (s3:(List Pair))) q2
def dQ (p0:Det) (p1:Det) (s1:(List (List Int))×Int×(List (List Int))) (v12:Int) (s4:(List (List Int))×(List Int)):Option ((Det×Bool)⊕(((List (List Int))×(List Int))⊕((List (List Int))×(List Int)))):=
 ds (idx s4.1 s1.2.1) λx35=>
 ds (idx x35 0) λx37=>
 ds (idx p0.Next x37) λx39=>
 ds (idx x39 v12) λx42=>
 ds (idx s4.1 s1.2.1) λx48=>
 ds (idx x48 1) λx50=>
 ds (idx p1.Next x50) λx52=>
 ds (idx x52 v12) λx55=>
 ds (iV s4.1 x42 x55) λx60=>
 ds (bif decide (x60<0) then
  ds (appS 24 s4.1 ([([x42,x55]:List Int)]:List (List Int))) λx70=>
  some ((x70:(List (List Int))),((s4.1.length:Int):Int))
 else
  some ((s4.1:(List (List Int))),(x60:Int))) λq7=>
 ds (appS 8 s4.2 ([q7.2]:List Int)) λx74=>
 some (.inr (.inr ((q7.1:(List (List Int))),(x74:(List Int)))))
def eu (p0:Det) (p1:Det) (p2:Int) (s1:(List (List Int))×Int×(List (List Int))):Option ((Det×Bool)⊕(((List (List Int))×Int×(List (List Int)))⊕((List (List Int))×Int×(List (List Int))))):=
 bif decide (s1.2.1<(s1.1.length:Int)) then
  ds (rng p2) λ_=>
  ds (cntM (dQ p0 p1 s1) (vH (p2-0)) 0 ((s1.1:(List (List Int))),(([]:List Int):(List Int)))) λq5=>
  aft (λr=>some (.inl r)) (λs6=>
   bif decide (48<(s6.1.length:Int)) then
    some (.inl (((⟨([]:List (List Int)),([]:List Pair)⟩:Det):Det),(false:Bool)))
   else
    ds (appS 24 s1.2.2 ([s6.2]:List (List Int))) λx83=>
    some (.inr (.inr ((s6.1:(List (List Int))),((IntKind.i64.wrap (s1.2.1+1)):Int),(x83:(List (List Int))))))) q5
 else
  some (.inr (.inl ((s1.1:(List (List Int))),(s1.2.1:Int),(s1.2.2:(List (List Int))))))
def dW (p0:Det) (p1:Det) (p2:Int):Option (Det×Bool):=
 ds (whileM (eu p0 p1 p2) (2 ^ 64) ((([([0,0]:List Int)]:List (List Int)):(List (List Int))),(0:Int),(([]:List (List Int)):(List (List Int))))) λq2=>
 aft (λr=>some r) (λs3=>
  ds (gD p0.Pairs s3.1 0) λx88=>
  ds (gD p1.Pairs s3.1 1) λx92=>
  ds (appS 48 x88 x92) λx93=>
  some (((⟨s3.2.2,x93⟩:Det):Det),(true:Bool))) q2
def g8 (p0:Sig) (p1:Det) (p2:Det):Option (Det×Bool):=
 ds (gt p0 p1) λx10=>
 ds (bif (!x10) then
 some true
 else
 ds (gt p0 p2) λx15=>
 some (!x15)) λp17=>
 ds (bif p17 then
 some true
 else
 some (decide (4<(IntKind.i64.wrap ((p1.Pairs.length:Int)+(p2.Pairs.length:Int)))))) λp27=>
 bif p27 then
  some (((⟨([]:List (List Int)),([]:List Pair)⟩:Det):Det),(false:Bool))
 else
  ds (cH p0) λx32=>
  ds (dW p1 p2 x32) λx33=>
  some ((x33.1:Det),(x33.2:Bool))
def dO (p0:Sig) (p1:(List Clause)) (v7:Int) (s1:(List (List Int))×(List Pair)):Option ((Det×Bool)⊕(((List (List Int))×(List Pair))⊕((List (List Int))×(List Pair)))):=
 ds (idx p1 v7) λx32=>
 ds (io p0 x32) λx34=>
 ds (g8 p0 (⟨s1.1,s1.2⟩:Det) x34) λx35=>
 bif (!x35.2) then
  some (.inl (((⟨([]:List (List Int)),([]:List Pair)⟩:Det):Det),(false:Bool)))
 else
  some (.inr (.inr ((x35.1.Next:(List (List Int))),(x35.1.Pairs:(List Pair)))))
def df (p0:Sig) (p1:(List Clause)):Option (Det×Bool):=
 ds (eJ p0 p1) λx12=>
 bif (!x12) then
  some (((⟨([]:List (List Int)),([]:List Pair)⟩:Det):Det),(false:Bool))
 else
  ds (cH p0) λx16=>
  ds (mkS 8 x16 (0:Int)) λx17=>
  ds (cntM (dO p0 p1) p1.length 0 ((([x17]:List (List Int)):(List (List Int))),(([]:List Pair):(List Pair)))) λq2=>
  aft (λr=>some r) (λs3=>
   some (((⟨s3.1,s3.2⟩:Det):Det),(true:Bool))) q2
def eD (p0:Sig):Option (Int):=
 ds (cY p0.In) λx5=>
 some (x5:Int)
def gH (p0:Sig) (p1:Int) (p2:Int):Option (Int):=
 ds (iH p0) λx8=>
 ds (bif (!x8) then
 some true
 else
 ds (cY p0.In) λx14=>
 ds (eo p1 0 (IntKind.i64.wrap (x14-1))) λx16=>
 some (!x16)) λp18=>
 ds (bif p18 then
 some true
 else
 ds (cY p0.Out) λx23=>
 ds (eo p2 0 (IntKind.i64.wrap (x23-1))) λx25=>
 some (!x25)) λp27=>
 bif p27 then
  some ((-1):Int)
 else
  ds (cY p0.In) λx31=>
  some ((IntKind.i64.wrap ((IntKind.i64.wrap (p2 * x31))+p1)):Int)
def di (p0:(List Int)):Option ((List Int)):=
 ds (appS 8 ([]:List Int) p0) λx5=>
 some (x5:(List Int))
def er (p0:(List Int)) (p1:Int) (s1:Int):Option ((List Int)⊕((Int)⊕(Int))):=
 ds (bif decide (s1<(p0.length:Int)) then
 ds (idx p0 s1) λx14=>
 some (decide (x14<p1))
 else
 some false) λp18=>
 bif p18 then
  some (.inr (.inr ((IntKind.i64.wrap (s1+1)):Int)))
 else
  some (.inr (.inl (s1:Int)))
def g6 (p0:(List Int)) (p1:Int):Option ((List Int)):=
 ds (whileM (er p0 p1) (2 ^ 64) (0:Int)) λq2=>
 aft (λr=>some r) (λs3=>
  ds (bif decide (s3<(p0.length:Int)) then
  ds (idx p0 s3) λx28=>
  some (x28==p1)
  else
  some false) λp32=>
  bif p32 then
   some (p0:(List Int))
  else
   ds (subS p0 0 s3) λx36=>
   ds (di x36) λx37=>
   ds (appS 8 x37 ([p1]:List Int)) λx40=>
   ds (subS p0 s3 (p0.length:Int)) λx44=>
   ds (appS 8 x40 x44) λx45=>
   some (x45:(List Int))) q2
def e6 (p0:Sig) (p1:Det) (p2:Int) (p3:Int) (s1:(List Int)×Int):Option ((List Int)⊕(((List Int)×Int)⊕((List Int)×Int))):=
 ds (cY p0.Out) λx15=>
 bif decide (s1.2<x15) then
  ds (idx p1.Next p2) λx23=>
  ds (gH p0 p3 s1.2) λx28=>
  ds (idx x23 x28) λx29=>
  ds (g6 s1.1 x29) λx31=>
  some (.inr (.inr ((x31:(List Int)),((IntKind.i64.wrap (s1.2+1)):Int))))
 else
  some (.inr (.inl ((s1.1:(List Int)),(s1.2:Int))))
def je (p0:Sig) (p1:Det) (p2:Int) (p3:Int):Option ((List Int)):=
 ds (whileM (e6 p0 p1 p2 p3) (2 ^ 64) ((([]:List Int):(List Int)),(0:Int))) λq2=>
 aft (λr=>some r) (λs3=>
  some (s3.1:(List Int))) q2
def dD (p1:Det) (x27:Int) (v10:Int) (v12:Int) (s4:(List Int)):Option ((Arena×(List Pair)×Bool)⊕(((List Int))⊕((List Int)))):=
 ds (appS 8 s4 ([(IntKind.i64.wrap ((IntKind.i64.wrap ((p1.Next.length:Int)+(IntKind.i64.wrap (v10 * x27))))+v12))]:List Int)) λx49=>
 some (.inr (.inr (x49:(List Int))))
def dz (p1:Det) (x27:Int) (v10:Int) (s1:(List Int)×(List (List Int))):Option ((Arena×(List Pair)×Bool)⊕(((List Int)×(List (List Int)))⊕((List Int)×(List (List Int))))):=
 ds (rng x27) λ_=>
 ds (cntM (dD p1 x27 v10) (vH (x27-0)) 0 (([]:List Int):(List Int))) λq5=>
 aft (λr=>some (.inl r)) (λs6=>
  ds (appS 8 s1.1 ([1]:List Int)) λx53=>
  ds (appS 24 s1.2 ([s6]:List (List Int))) λx59=>
  some (.inr (.inr ((x53:(List Int)),(x59:(List (List Int))))))) q5
def du (p0:Sig) (p1:Det) (v13:Int) (v14:Int) (s10:(List Int)×(List (List Int))):Option ((Arena×(List Pair)×Bool)⊕(((List Int)×(List (List Int)))⊕((List Int)×(List (List Int))))):=
 ds (appS 8 s10.1 ([0]:List Int)) λx74=>
 ds (je p0 p1 v13 v14) λx82=>
 ds (appS 24 s10.2 ([x82]:List (List Int))) λx84=>
 some (.inr (.inr ((x74:(List Int)),(x84:(List (List Int))))))
def dN (p0:Sig) (p1:Det) (x27:Int) (v13:Int) (s7:(List Int)×(List (List Int))):Option ((Arena×(List Pair)×Bool)⊕(((List Int)×(List (List Int)))⊕((List Int)×(List (List Int))))):=
 ds (rng x27) λ_=>
 ds (cntM (du p0 p1 v13) (vH (x27-0)) 0 ((s7.1:(List Int)),(s7.2:(List (List Int))))) λq11=>
 aft (λr=>some (.inl r)) (λs12=>
  some (.inr (.inr ((s12.1:(List Int)),(s12.2:(List (List Int))))))) q11
def dC (p1:Det) (v16:Int) (s13:(List Pair)):Option ((Arena×(List Pair)×Bool)⊕(((List Pair))⊕((List Pair)))):=
 ds (idx p1.Pairs v16) λx98=>
 ds (idx p1.Pairs v16) λx105=>
 ds (di x98.Ask) λx101=>
 ds (di x105.Give) λx108=>
 ds (appS 48 s13 ([(⟨x101,x108⟩:Pair)]:List Pair)) λx111=>
 some (.inr (.inr (x111:(List Pair))))
def cT (p0:Sig) (p1:Det):Option (Arena×(List Pair)×Bool):=
 ds (gt p0 p1) λx19=>
 bif (!x19) then
  some (((⟨([]:List Int),([]:List (List Int))⟩:Arena):Arena),(([]:List Pair):(List Pair)),(false:Bool))
 else
  ds (eD p0) λx27=>
  ds (cntM (dz p1 x27) p1.Next.length 0 ((([]:List Int):(List Int)),(([]:List (List Int)):(List (List Int))))) λq2=>
  aft (λr=>some r) (λs3=>
   ds (cntM (dN p0 p1 x27) p1.Next.length 0 ((s3.1:(List Int)),(s3.2:(List (List Int))))) λq8=>
   aft (λr=>some r) (λs9=>
    ds (cntM (dC p1) p1.Pairs.length 0 (([]:List Pair):(List Pair))) λq14=>
    aft (λr=>some r) (λs15=>
     some (((⟨s9.1,s9.2⟩:Arena):Arena),(s15:(List Pair)),(true:Bool))) q14) q8) q2
def gv (p0:Arena) (v4:Int) (s1:Unit):Option (Bool⊕((Unit)⊕(Unit))):=
 ds (idx p0.Owner v4) λx30=>
 ds (eo x30 0 1) λx32=>
 ds (bif (!x32) then
 some true
 else
 ds (idx p0.Next v4) λx38=>
 some (decide ((x38.length:Int)<1))) λp42=>
 ds (bif p42 then
 some true
 else
 ds (idx p0.Next v4) λx47=>
 some (decide (16<(x47.length:Int)))) λp51=>
 ds (bif p51 then
 some true
 else
 ds (idx p0.Next v4) λx56=>
 ds (jM x56 (p0.Owner.length:Int)) λx59=>
 some (!x59)) λp61=>
 bif p61 then
  some (.inl (false:Bool))
 else
  some (.inr (.inr ()))
def iQ (p0:Arena):Option (Bool):=
 ds (eo (p0.Owner.length:Int) 1 256) λx9=>
 ds (bif (!x9) then
 some true
 else
 some ((p0.Next.length:Int) !=(p0.Owner.length:Int))) λp19=>
 bif p19 then
  some (false:Bool)
 else
  ds (cntM (gv p0) p0.Owner.length 0 ()) λq2=>
  aft (λr=>some r) (λs3=>
   some (true:Bool)) q2
def ib (p0:(List Int)) (p1:Int) (v5:Int) (s1:Unit):Option (Bool⊕((Unit)⊕(Unit))):=
 ds (idx p0 v5) λx14=>
 bif (x14==p1) then
  some (.inl (true:Bool))
 else
  some (.inr (.inr ()))
def jb (p0:(List Int)) (p1:Int):Option (Bool):=
 ds (cntM (ib p0 p1) p0.length 0 ()) λq2=>
 aft (λr=>some r) (λs3=>
  some (false:Bool)) q2
def dY (p0:(List Pair)) (p1:(List Int)) (p2:Int) (v9:Int) (s1:(List Int)×(List Int)):Option ((List Int)⊕(((List Int)×(List Int))⊕((List Int)×(List Int)))):=
 ds (idx p1 v9) λx21=>
 ds (idx p0 x21) λx23=>
 ds (jb x23.Give p2) λx27=>
 ds (bif x27 then
  ds (idx p1 v9) λx31=>
  ds (appS 8 s1.1 ([x31]:List Int)) λx34=>
  some ((x34:(List Int)),(s1.2:(List Int)))
 else
  ds (idx p1 v9) λx38=>
  ds (appS 8 s1.2 ([x38]:List Int)) λx41=>
  some ((s1.1:(List Int)),(x41:(List Int)))) λq4=>
 some (.inr (.inr ((q4.1:(List Int)),(q4.2:(List Int)))))
def gN (p0:(List Pair)) (p1:(List Int)) (p2:Int):Option ((List Int)):=
 ds (cntM (dY p0 p1 p2) p1.length 0 ((([]:List Int):(List Int)),(([]:List Int):(List Int)))) λq2=>
 aft (λr=>some r) (λs3=>
  ds (appS 8 s3.1 s3.2) λx44=>
  some (x44:(List Int))) q2
def dK (p0:(List Int)) (p1:(List Int)) (v5:Int) (s1:Unit):Option (Bool⊕((Unit)⊕(Unit))):=
 ds (idx p0 v5) λx19=>
 ds (idx p1 v5) λx23=>
 bif (x19 !=x23) then
  some (.inl (false:Bool))
 else
  some (.inr (.inr ()))
def fC (p0:(List Int)) (p1:(List Int)):Option (Bool):=
 bif ((p0.length:Int) !=(p1.length:Int)) then
  some (false:Bool)
 else
  ds (cntM (dK p0 p1) p0.length 0 ()) λq2=>
  aft (λr=>some r) (λs3=>
   some (true:Bool)) q2
def gp (p0:(List Place)) (p1:Int) (p2:(List Int)) (v7:Int) (s1:Unit):Option (Int⊕((Unit)⊕(Unit))):=
 ds (idx p0 v7) λx16=>
 ds (bif (x16.At==p1) then
 ds (idx p0 v7) λx24=>
 ds (fC x24.Record p2) λx28=>
 some x28
 else
 some false) λp29=>
 bif p29 then
  some (.inl (v7:Int))
 else
  some (.inr (.inr ()))
def kl (p0:(List Place)) (p1:Int) (p2:(List Int)):Option (Int):=
 ds (cntM (gp p0 p1 p2) p0.length 0 ()) λq2=>
 aft (λr=>some r) (λs3=>
  some ((-1):Int)) q2
def eq (p0:(List Int)) (v4:Int) (s1:(List Int)) (s4:Int):Option ((List Int)⊕((Int)⊕(Int))):=
 ds (bif decide (0<s4) then
 ds (idx s1 (IntKind.i64.wrap (s4-1))) λx22=>
 ds (idx p0 v4) λx26=>
 some (decide (x26<x22))
 else
 some false) λp29=>
 bif p29 then
  some (.inr (.inr ((IntKind.i64.wrap (s4-1)):Int)))
 else
  some (.inr (.inl (s4:Int)))
def eQ (p0:(List Int)) (v4:Int) (s1:(List Int)):Option ((List Int)⊕(((List Int))⊕((List Int)))):=
 ds (whileM (eq p0 v4 s1) (2 ^ 64) ((s1.length:Int):Int)) λq5=>
 aft (λr=>some (.inl r)) (λs6=>
  ds (subS s1 0 s6) λx35=>
  ds (appS 8 ([]:List Int) x35) λx36=>
  ds (idx p0 v4) λx40=>
  ds (appS 8 x36 ([x40]:List Int)) λx43=>
  ds (subS s1 s6 (s1.length:Int)) λx47=>
  ds (appS 8 x43 x47) λx48=>
  some (.inr (.inr (x48:(List Int))))) q5
def ia (p0:(List Int)):Option ((List Int)):=
 ds (cntM (eQ p0) p0.length 0 (([]:List Int):(List Int))) λq2=>
 aft (λr=>some r) (λs3=>
  some (s3:(List Int))) q2
def d4 (p0:(List Pair)) (p1:(List Int)) (p2:Int) (v9:Int) (s1:Int×Int):Option (Int⊕((Int×Int)⊕(Int×Int))):=
 ds (idx p1 v9) λx19=>
 ds (idx p0 x19) λx21=>
 ds (jb x21.Ask p2) λx25=>
 ds (bif x25 then
  some (v9:Int)
 else
  some (s1.1:Int)) λq4=>
 ds (idx p1 v9) λx30=>
 ds (idx p0 x30) λx32=>
 ds (jb x32.Give p2) λx36=>
 ds (bif x36 then
  some (v9:Int)
 else
  some (s1.2:Int)) λq5=>
 some (.inr (.inr ((q4:Int),(q5:Int))))
def gW (p0:(List Pair)) (p1:(List Int)) (p2:Int):Option (Int):=
 ds (cntM (d4 p0 p1 p2) p1.length 0 (((-1):Int),((-1):Int))) λq2=>
 aft (λr=>some r) (λs3=>
  ds (bif decide (s3.1<0) then
  some (decide (s3.2<0))
  else
  some false) λp44=>
  bif p44 then
   some (0:Int)
  else
   bif decide (s3.2<s3.1) then
    some ((IntKind.i64.wrap ((IntKind.i64.wrap (2 * s3.1))+1)):Int)
   else
    some ((IntKind.i64.wrap ((IntKind.i64.wrap (2 * s3.2))+2)):Int)) q2
def dr  (v11:Int) (s1:(List Int)):Option ((Parity×(List Place)×Bool)⊕(((List Int))⊕((List Int)))):=
 ds (appS 8 s1 ([v11]:List Int)) λx52=>
 some (.inr (.inr (x52:(List Int))))
def ee (p0:Arena) (x66:Place) (x73:(List Int)) (s7:(List Place)×(List Int)×Int):Option ((Parity×(List Place)×Bool)⊕(((List Place)×(List Int)×Int)⊕((List Place)×(List Int)×Int))):=
 ds (idx p0.Next x66.At) λx80=>
 bif decide (s7.2.2<(x80.length:Int)) then
  ds (idx p0.Next x66.At) λx90=>
  ds (idx x90 s7.2.2) λx93=>
  ds (kl s7.1 x93 x73) λx98=>
  ds (bif decide (x98<0) then
   bif decide (256<=(s7.1.length:Int)) then
    some (.inl (((⟨(⟨([]:List Int),([]:List (List Int))⟩:Arena),([]:List Int)⟩:Parity):Parity),(([]:List Place):(List Place)),(false:Bool)))
   else
    ds (appS 8 ([]:List Int) x73) λx111=>
    ds (appS 32 s7.1 ([(⟨x93,x111⟩:Place)]:List Place)) λx114=>
    some (.inr ((x114:(List Place)),((s7.1.length:Int):Int)))
  else
   some (.inr ((s7.1:(List Place)),(x98:Int))):Option ((Parity×(List Place)×Bool)⊕((List Place)×Int))) λq10=>
  aft (λr=>some (.inl r)) (λz10=>
   ds (appS 8 s7.2.1 ([z10.2]:List Int)) λx118=>
   some (.inr (.inr ((z10.1:(List Place)),(x118:(List Int)),((IntKind.i64.wrap (s7.2.2+1)):Int))))) q10
 else
  some (.inr (.inl ((s7.1:(List Place)),(s7.2.1:(List Int)),(s7.2.2:Int))))
def dq (p0:Arena) (p1:(List Pair)) (s4:(List Place)×Int×(List Int)×(List (List Int))×(List Int)):Option ((Parity×(List Place)×Bool)⊕(((List Place)×Int×(List Int)×(List (List Int))×(List Int))⊕((List Place)×Int×(List Int)×(List (List Int))×(List Int)))):=
 bif decide (s4.2.1<(s4.1.length:Int)) then
  ds (idx s4.1 s4.2.1) λx66=>
  ds (gN p1 x66.Record x66.At) λx73=>
  ds (whileM (ee p0 x66 x73) (2 ^ 64) ((s4.1:(List Place)),(([]:List Int):(List Int)),(0:Int))) λq8=>
  aft (λr=>some (.inl r)) (λs9=>
   ds (idx p0.Owner x66.At) λx126=>
   ds (appS 8 s4.2.2.1 ([x126]:List Int)) λx129=>
   ds (ia s9.2.1) λx136=>
   ds (appS 24 s4.2.2.2.1 ([x136]:List (List Int))) λx138=>
   ds (gW p1 x66.Record x66.At) λx148=>
   ds (appS 8 s4.2.2.2.2 ([x148]:List Int)) λx150=>
   some (.inr (.inr ((s9.1:(List Place)),((IntKind.i64.wrap (s4.2.1+1)):Int),(x129:(List Int)),(x138:(List (List Int))),(x150:(List Int)))))) q8
 else
  some (.inr (.inl ((s4.1:(List Place)),(s4.2.1:Int),(s4.2.2.1:(List Int)),(s4.2.2.2.1:(List (List Int))),(s4.2.2.2.2:(List Int)))))
def c8 (p0:Arena) (p1:(List Pair)) (p2:Int):Option (Parity×(List Place)×Bool):=
 ds (iQ p0) λx25=>
 ds (bif (!x25) then
 some true
 else
 ds (iP p1 (p0.Owner.length:Int)) λx30=>
 some (!x30)) λp32=>
 ds (bif p32 then
 some true
 else
 ds (eo p2 0 (IntKind.i64.wrap ((p0.Owner.length:Int)-1))) λx37=>
 some (!x37)) λp39=>
 bif p39 then
  some (((⟨(⟨([]:List Int),([]:List (List Int))⟩:Arena),([]:List Int)⟩:Parity):Parity),(([]:List Place):(List Place)),(false:Bool))
 else
  ds (cntM dr p1.length 0 (([]:List Int):(List Int))) λq2=>
  aft (λr=>some r) (λs3=>
   ds (whileM (dq p0 p1) (2 ^ 64) ((([(⟨p2,s3⟩:Place)]:List Place):(List Place)),(0:Int),(([]:List Int):(List Int)),(([]:List (List Int)):(List (List Int))),(([]:List Int):(List Int)))) λq5=>
   aft (λr=>some r) (λs6=>
    some (((⟨(⟨s6.2.2.1,s6.2.2.2.1⟩:Arena),s6.2.2.2.2⟩:Parity):Parity),(s6.1:(List Place)),(true:Bool))) q5) q2
def jk (p0:Int) (s1:(List Int)×Int):Option ((List Int)⊕(((List Int)×Int)⊕((List Int)×Int))):=
 ds (bif decide (s1.2<p0) then
 some (decide (p0<=256))
 else
 some false) λp12=>
 bif p12 then
  ds (appS 8 s1.1 ([s1.2]:List Int)) λx18=>
  some (.inr (.inr ((x18:(List Int)),((IntKind.i64.wrap (s1.2+1)):Int))))
 else
  some (.inr (.inl ((s1.1:(List Int)),(s1.2:Int))))
def mr (p0:Int):Option ((List Int)):=
 ds (whileM (jk p0) (2 ^ 64) ((([]:List Int):(List Int)),(0:Int))) λq2=>
 aft (λr=>some r) (λs3=>
  some (s3.1:(List Int))) q2
def lC (p0:Parity):Option ((List Int)):=
 ds (mr (p0.Prio.length:Int)) λx6=>
 some (x6:(List Int))
def fu (p0:Parity) (v3:Int) (s1:Unit):Option (Bool⊕((Unit)⊕(Unit))):=
 ds (idx p0.Prio v3) λx28=>
 ds (eo x28 0 40) λx30=>
 bif (!x30) then
  some (.inl (false:Bool))
 else
  some (.inr (.inr ()))
def fH (p0:Parity):Option (Bool):=
 ds (iQ p0.Arena) λx6=>
 ds (bif (!x6) then
 some true
 else
 some ((p0.Prio.length:Int) !=(p0.Arena.Owner.length:Int))) λp17=>
 bif p17 then
  some (false:Bool)
 else
  ds (cntM (fu p0) p0.Prio.length 0 ()) λq2=>
  aft (λr=>some r) (λs3=>
   some (true:Bool)) q2
def j5 (p0:Parity) (v5:Int) (s4:Int×(List (List Int))):Option (l7Game⊕((Int×(List (List Int)))⊕(Int×(List (List Int))))):=
 ds (idx p0.Arena.Next v5) λx38=>
 bif decide (s4.1<(x38.length:Int)) then
  ds (idx p0.Arena.Next v5) λx48=>
  ds (idx x48 s4.1) λx51=>
  ds (idx s4.2 x51) λx59=>
  ds (appS 8 x59 ([v5]:List Int)) λx63=>
  ds (idx s4.2 x51) λx64=>
  ds (setI s4.2 x51 (x63:(List Int))) λy174=>
  some (.inr (.inr (((IntKind.i64.wrap (s4.1+1)):Int),(y174:(List (List Int))))))
 else
  some (.inr (.inl ((s4.1:Int),(s4.2:(List (List Int))))))
def kd (p0:Parity) (v5:Int) (s1:(List (List Int))×(List Int)):Option (l7Game⊕(((List (List Int))×(List Int))⊕((List (List Int))×(List Int)))):=
 ds (idx s1.2 v5) λx32=>
 ds (setI s1.2 v5 (-1)) λy172=>
 ds (whileM (j5 p0 v5) (2 ^ 64) ((0:Int),(s1.1:(List (List Int))))) λq5=>
 aft (λr=>some (.inl r)) (λs6=>
  some (.inr (.inr ((s6.2:(List (List Int))),(y172:(List Int)))))) q5
def mq (p0:Parity):Option (l7Game):=
 ds (mkS 24 (p0.Prio.length:Int) (([]:List Int):(List Int))) λx20=>
 ds (mkS 8 (p0.Prio.length:Int) (0:Int)) λx22=>
 ds (cntM (kd p0) p0.Prio.length 0 (((⟨p0.Arena.Owner,p0.Prio,p0.Arena.Next,x20,x22⟩:l7Game).prev:(List (List Int))),((⟨p0.Arena.Owner,p0.Prio,p0.Arena.Next,x20,x22⟩:l7Game).pick:(List Int)))) λq2=>
 aft (λr=>some r) (λs3=>
  some ((⟨(⟨p0.Arena.Owner,p0.Prio,p0.Arena.Next,x20,x22⟩:l7Game).owner,(⟨p0.Arena.Owner,p0.Prio,p0.Arena.Next,x20,x22⟩:l7Game).prio,(⟨p0.Arena.Owner,p0.Prio,p0.Arena.Next,x20,x22⟩:l7Game).next,s3.1,s3.2⟩:l7Game):l7Game)) q2
def iD (p1:(List Int)) (v6:Int) (s1:(List Bool)):Option ((List Bool)⊕(((List Bool))⊕((List Bool)))):=
 ds (idx p1 v6) λx18=>
 ds (idx s1 x18) λx20=>
 ds (setI s1 x18 true) λy177=>
 some (.inr (.inr (y177:(List Bool))))
def kN (p0:Int) (p1:(List Int)):Option ((List Bool)):=
 ds (mkS 1 p0 (false:Bool)) λx8=>
 ds (cntM (iD p1) p1.length 0 (x8:(List Bool))) λq2=>
 aft (λr=>some r) (λs3=>
  some (s3:(List Bool))) q2
def ke (p0:l7Game) (p1:Int) (p2:Int):Option (Bool):=
 ds (idx p0.pick p1) λx10=>
 ds (bif decide (x10<0) then
 some true
 else
 ds (idx p0.pick p1) λx17=>
 some (x17==p2)) λp21=>
 some (p21:Bool)
def fo (p0:l7Game) (p1:(List Bool)) (p2:Int) (s1:Int×Int):Option (Int⊕((Int×Int)⊕(Int×Int))):=
 ds (idx p0.next p2) λx14=>
 bif decide (s1.2<(x14.length:Int)) then
  ds (idx p0.next p2) λx23=>
  ds (idx x23 s1.2) λx26=>
  ds (idx p1 x26) λx30=>
  ds (bif x30 then
  ds (ke p0 p2 x26) λx36=>
  some x36
  else
  some false) λp37=>
  ds (bif p37 then
   some ((IntKind.i64.wrap (s1.1+1)):Int)
  else
   some (s1.1:Int)) λq4=>
  some (.inr (.inr ((q4:Int),((IntKind.i64.wrap (s1.2+1)):Int))))
 else
  some (.inr (.inl ((s1.1:Int),(s1.2:Int))))
def fJ (p0:l7Game) (p1:(List Bool)) (p2:Int):Option (Int):=
 ds (whileM (fo p0 p1 p2) (2 ^ 64) ((0:Int),(0:Int))) λq2=>
 aft (λr=>some r) (λs3=>
  some (s3.1:Int)) q2
def jl (p0:l7Game) (p1:(List Bool)) (v6:Int) (s1:Int):Option (Int⊕((Int)⊕(Int))):=
 ds (idx p1 v6) λx15=>
 ds (bif x15 then
  ds (idx p0.prio v6) λx21=>
  ds (iK s1 x21) λx23=>
  some (x23:Int)
 else
  some (s1:Int)) λq4=>
 some (.inr (.inr (q4:Int)))
def mB (p0:l7Game) (p1:(List Bool)):Option (Int):=
 ds (cntM (jl p0 p1) p1.length 0 ((-1):Int)) λq2=>
 aft (λr=>some r) (λs3=>
  some (s3:Int)) q2
def dB (p0:l7Game) (p1:(List Bool)) (p3:(List Bool)) (v12:Int) (s1:(List Int)×(List Bool)×(List Int)):Option ((List Bool)⊕(((List Int)×(List Bool)×(List Int))⊕((List Int)×(List Bool)×(List Int)))):=
 ds (idx p1 v12) λx32=>
 ds (bif x32 then
  ds (fJ p0 p1 v12) λx39=>
  ds (idx s1.2.2 v12) λx40=>
  ds (setI s1.2.2 v12 x39) λy191=>
  some (y191:(List Int))
 else
  some (s1.2.2:(List Int))) λq4=>
 ds (idx p1 v12) λx43=>
 ds (bif x43 then
 ds (idx p3 v12) λx48=>
 some x48
 else
 some false) λp50=>
 ds (bif p50 then
  ds (idx s1.2.1 v12) λx53=>
  ds (setI s1.2.1 v12 true) λy192=>
  ds (appS 8 s1.1 ([v12]:List Int)) λx57=>
  some ((x57:(List Int)),(y192:(List Bool)))
 else
  some ((s1.1:(List Int)),(s1.2.1:(List Bool)))) λq5=>
 some (.inr (.inr ((q5.1:(List Int)),(q5.2:(List Bool)),(q4:(List Int)))))
def cZ (p0:l7Game) (p1:(List Bool)) (p2:Int) (x66:Int) (s9:(List Int)×Int×(List Bool)×(List Int)):Option ((List Bool)⊕(((List Int)×Int×(List Bool)×(List Int))⊕((List Int)×Int×(List Bool)×(List Int)))):=
 ds (idx p0.prev x66) λx72=>
 bif decide (s9.2.1<(x72.length:Int)) then
  ds (idx p0.prev x66) λx81=>
  ds (idx x81 s9.2.1) λx84=>
  ds (idx p1 x84) λx88=>
  ds (bif (!x88) then
  some true
  else
  ds (idx s9.2.2.1 x84) λx94=>
  some x94) λp96=>
  ds (bif p96 then
  some true
  else
  ds (ke p0 x84 x66) λx101=>
  some (!x101)) λp103=>
  bif p103 then
   some (.inr (.inr ((s9.1:(List Int)),((IntKind.i64.wrap (s9.2.1+1)):Int),(s9.2.2.1:(List Bool)),(s9.2.2.2:(List Int)))))
  else
   ds (idx s9.2.2.2 x84) λx106=>
   ds (idx s9.2.2.2 x84) λx109=>
   ds (setI s9.2.2.2 x84 (IntKind.i64.wrap (x106-1))) λy195=>
   ds (idx p0.owner x84) λx113=>
   ds (bif (x113==p2) then
   some true
   else
   ds (idx y195 x84) λx120=>
   some (x120==0)) λp123=>
   ds (bif p123 then
    ds (idx s9.2.2.1 x84) λx126=>
    ds (setI s9.2.2.1 x84 true) λy196=>
    ds (appS 8 s9.1 ([x84]:List Int)) λx130=>
    some ((x130:(List Int)),(y196:(List Bool)))
   else
    some ((s9.1:(List Int)),(s9.2.2.1:(List Bool)))) λq12=>
   some (.inr (.inr ((q12.1:(List Int)),((IntKind.i64.wrap (s9.2.1+1)):Int),(q12.2:(List Bool)),(y195:(List Int)))))
 else
  some (.inr (.inl ((s9.1:(List Int)),(s9.2.1:Int),(s9.2.2.1:(List Bool)),(s9.2.2.2:(List Int)))))
def eB (p0:l7Game) (p1:(List Bool)) (p2:Int) (s6:(List Int)×Int×(List Bool)×(List Int)):Option ((List Bool)⊕(((List Int)×Int×(List Bool)×(List Int))⊕((List Int)×Int×(List Bool)×(List Int)))):=
 bif decide (s6.2.1<(s6.1.length:Int)) then
  ds (idx s6.1 s6.2.1) λx66=>
  ds (whileM (cZ p0 p1 p2 x66) (2 ^ 64) ((s6.1:(List Int)),(0:Int),(s6.2.2.1:(List Bool)),(s6.2.2.2:(List Int)))) λq10=>
  aft (λr=>some (.inl r)) (λs11=>
   some (.inr (.inr ((s11.1:(List Int)),((IntKind.i64.wrap (s6.2.1+1)):Int),(s11.2.2.1:(List Bool)),(s11.2.2.2:(List Int)))))) q10
 else
  some (.inr (.inl ((s6.1:(List Int)),(s6.2.1:Int),(s6.2.2.1:(List Bool)),(s6.2.2.2:(List Int)))))
def fQ (p0:l7Game) (p1:(List Bool)) (p2:Int) (p3:(List Bool)):Option ((List Bool)):=
 ds (mkS 1 (p1.length:Int) (false:Bool)) λx19=>
 ds (mkS 8 (p1.length:Int) (0:Int)) λx22=>
 ds (cntM (dB p0 p1 p3) p1.length 0 ((([]:List Int):(List Int)),(x19:(List Bool)),(x22:(List Int)))) λq2=>
 aft (λr=>some r) (λs3=>
  ds (whileM (eB p0 p1 p2) (2 ^ 64) ((s3.1:(List Int)),(0:Int),(s3.2.1:(List Bool)),(s3.2.2:(List Int)))) λq7=>
  aft (λr=>some r) (λs8=>
   some (s8.2.2.1:(List Bool))) q7) q2
def ip (p0:(List Bool)) (p1:(List Bool)) (v6:Int) (s1:(List Bool)):Option ((List Bool)⊕(((List Bool))⊕((List Bool)))):=
 ds (idx p0 v6) λx20=>
 ds (bif x20 then
 ds (idx p1 v6) λx25=>
 some (!x25)
 else
 some false) λp28=>
 ds (idx s1 v6) λx29=>
 ds (setI s1 v6 p28) λy200=>
 some (.inr (.inr (y200:(List Bool))))
def j0 (p0:(List Bool)) (p1:(List Bool)):Option ((List Bool)):=
 ds (mkS 1 (p0.length:Int) (false:Bool)) λx9=>
 ds (cntM (ip p0 p1) p0.length 0 (x9:(List Bool))) λq2=>
 aft (λr=>some r) (λs3=>
  some (s3:(List Bool))) q2
def jr (p0:l7Game) (p1:(List Bool)) (x21:Int) (v9:Int) (s1:(List Bool)):Option ((List Bool)⊕(((List Bool))⊕((List Bool)))):=
 ds (idx p1 v9) λx43=>
 ds (bif x43 then
 ds (idx p0.prio v9) λx49=>
 some (x49==x21)
 else
 some false) λp53=>
 ds (idx s1 v9) λx54=>
 ds (setI s1 v9 p53) λy185=>
 some (.inr (.inr (y185:(List Bool))))
def gQ (x21:Int) (x61:(List Bool)) (x64:(List Bool)) (v14:Int) (s4:Bool×(List Bool)):Option ((List Bool)⊕((Bool×(List Bool))⊕(Bool×(List Bool)))):=
 ds (idx x61 v14) λx78=>
 ds (bif x78 then
 ds (idx x64 v14) λx83=>
 some (x83 !=((Int.tmod x21 2)==0))
 else
 some false) λp88=>
 ds (idx s4.2 v14) λx89=>
 ds (setI s4.2 v14 p88) λy203=>
 ds (bif s4.1 then
 some true
 else
 ds (idx y203 v14) λx94=>
 some x94) λp96=>
 some (.inr (.inr ((p96:Bool),(y203:(List Bool)))))
def jd (p1:(List Bool)) (x21:Int) (v15:Int) (s7:(List Bool)):Option ((List Bool)⊕(((List Bool))⊕((List Bool)))):=
 ds (idx p1 v15) λx109=>
 ds (bif x109 then
 some ((Int.tmod x21 2)==0)
 else
 some false) λp114=>
 ds (idx s7 v15) λx115=>
 ds (setI s7 v15 p114) λy204=>
 some (.inr (.inr (y204:(List Bool))))
def i9 (x21:Int) (x122:(List Bool)) (x127:(List Bool)) (v18:Int) (s10:(List Bool)):Option ((List Bool)⊕(((List Bool))⊕((List Bool)))):=
 ds (idx x127 v18) λx138=>
 ds (bif x138 then
 some true
 else
 ds (idx x122 v18) λx143=>
 ds (bif x143 then
 some ((Int.tmod x21 2)==1)
 else
 some false) λp148=>
 some p148) λp149=>
 ds (idx s10 v18) λx150=>
 ds (setI s10 v18 p149) λy208=>
 some (.inr (.inr (y208:(List Bool))))
def gJ (rc:l7Game->(List Bool)->Option ((List Bool))) (p0:l7Game) (p1:(List Bool)):Option ((List Bool)):=
 ds (mB p0 p1) λx21=>
 ds (mkS 1 (p1.length:Int) (false:Bool)) λx24=>
 bif decide (x21<0) then
  some (x24:(List Bool))
 else
  ds (mkS 1 (p1.length:Int) (false:Bool)) λx32=>
  ds (cntM (jr p0 p1 x21) p1.length 0 (x32:(List Bool))) λq2=>
  aft (λr=>some r) (λs3=>
   ds (fQ p0 p1 (Int.tmod x21 2) s3) λx60=>
   ds (j0 p1 x60) λx61=>
   ds (rc p0 x61) λx64=>
   ds (mkS 1 (p1.length:Int) (false:Bool)) λx67=>
   ds (cntM (gQ x21 x61 x64) p1.length 0 ((false:Bool),(x67:(List Bool)))) λq5=>
   aft (λr=>some r) (λs6=>
    bif (!s6.1) then
     ds (cntM (jd p1 x21) p1.length 0 (x24:(List Bool))) λq8=>
     aft (λr=>some r) (λs9=>
      some (s9:(List Bool))) q8
    else
     ds (fQ p0 p1 (IntKind.i64.wrap (1-(Int.tmod x21 2))) s6.2) λx122=>
     ds (j0 p1 x122) λx126=>
     ds (rc p0 x126) λx127=>
     ds (cntM (i9 x21 x122 x127) p1.length 0 (x24:(List Bool))) λq11=>
     aft (λr=>some r) (λs12=>
      some (s12:(List Bool))) q11) q5) q2
def iL:Nat->l7Game->(List Bool)->Option ((List Bool))
 | 0=>λ_ _=>none
 | n+1=>gJ (iL n)
def ju (p1:(List Int)) (x29:l7Game) (x34:(List Bool)) (v10:Int) (s1:Unit):Option (((List Int)×(List Int))⊕((Unit)⊕(Unit))):=
 ds (idx p1 v10) λx45=>
 ds (fJ x29 x34 x45) λx47=>
 bif (x47==0) then
  some (.inl ((([]:List Int):(List Int)),(([]:List Int):(List Int))))
 else
  some (.inr (.inr ()))
def iU (p1:(List Int)) (x53:(List Bool)) (v12:Int) (s4:(List Int)×(List Int)):Option (((List Int)×(List Int))⊕(((List Int)×(List Int))⊕((List Int)×(List Int)))):=
 ds (idx p1 v12) λx63=>
 ds (idx x53 x63) λx65=>
 ds (bif x65 then
  ds (idx p1 v12) λx70=>
  ds (appS 8 s4.1 ([x70]:List Int)) λx73=>
  some ((x73:(List Int)),(s4.2:(List Int)))
 else
  ds (idx p1 v12) λx77=>
  ds (appS 8 s4.2 ([x77]:List Int)) λx80=>
  some ((s4.1:(List Int)),(x80:(List Int)))) λq7=>
 some (.inr (.inr ((q7.1:(List Int)),(q7.2:(List Int)))))
def mR (p0:Parity) (p1:(List Int)):Option ((List Int)×(List Int)):=
 ds (fH p0) λx16=>
 ds (bif (!x16) then
 some true
 else
 ds (iM p1 (p0.Prio.length:Int)) λx23=>
 some (!x23)) λp25=>
 bif p25 then
  some ((([]:List Int):(List Int)),(([]:List Int):(List Int)))
 else
  ds (mq p0) λx29=>
  ds (kN (p0.Prio.length:Int) p1) λx34=>
  ds (cntM (ju p1 x29 x34) p1.length 0 ()) λq2=>
  aft (λr=>some r) (λs3=>
   ds (iL (2 ^ 64) x29 x34) λx53=>
   ds (cntM (iU p1 x53) p1.length 0 ((([]:List Int):(List Int)),(([]:List Int):(List Int)))) λq5=>
   aft (λr=>some r) (λs6=>
    some ((s6.1:(List Int)),(s6.2:(List Int)))) q5) q2
def kI (p0:Sig) (p1:Det) (p2:Int):Option (Int):=
 ds (cT p0 p1) λx18=>
 ds (c8 x18.1 x18.2.1 p2) λx26=>
 bif (!x26.2.2) then
  some ((-1):Int)
 else
  ds (lC x26.1) λx35=>
  ds (mR x26.1 x35) λx36=>
  ds (gY x36.1 0) λx40=>
  ds (eb x40) λx41=>
  some ((IntKind.i64.wrap (1-x41)):Int)
def gg (p0:Sig) (p1:Det):Option (Int):=
 ds (gt p0 p1) λx7=>
 bif (!x7) then
  some ((-1):Int)
 else
  ds (kI p0 p1 0) λx11=>
  some (x11:Int)
def fw (p0:Sig) (p1:(List Clause)):Option (Bool):=
 ds (df p0 p1) λx10=>
 ds (bif x10.2 then
 ds (gg p0 x10.1) λx17=>
 some (x17==0)
 else
 some false) λp19=>
 some (p19:Bool)
def ig  (v4:Int) (s1:(List Int)):Option ((List Int)⊕(((List Int))⊕((List Int)))):=
 ds (appS 8 s1 ([(-1)]:List Int)) λx13=>
 some (.inr (.inr (x13:(List Int))))
def lu (p0:Int):Option ((List Int)):=
 ds (rng p0) λ_=>
 ds (cntM ig (vH (p0-0)) 0 (([]:List Int):(List Int))) λq2=>
 aft (λr=>some r) (λs3=>
  some (s3:(List Int))) q2
def kD (p0:(List Int)) (p1:Int) (v5:Int) (s1:Unit):Option (Bool⊕((Unit)⊕(Unit))):=
 ds (idx p0 v5) λx14=>
 bif (x14==p1) then
  some (.inl (true:Bool))
 else
  some (.inr (.inr ()))
def mX (p0:(List Int)) (p1:Int):Option (Bool):=
 ds (cntM (kD p0 p1) p0.length 0 ()) λq2=>
 aft (λr=>some r) (λs3=>
  some (false:Bool)) q2
def gr (p0:Parity) (p1:(List Int)) (v5:Int) (s1:Unit):Option (Bool⊕((Unit)⊕(Unit))):=
 ds (idx p1 v5) λx20=>
 ds (bif (x20 !=(-1)) then
 ds (idx p1 v5) λx32=>
 ds (idx p0.Arena.Next v5) λx28=>
 ds (mX x28 x32) λx34=>
 some (!x34)
 else
 some false) λp36=>
 bif p36 then
  some (.inl (false:Bool))
 else
  some (.inr (.inr ()))
def j7 (p0:Parity) (p1:(List Int)):Option (Bool):=
 bif ((p1.length:Int) !=(p0.Prio.length:Int)) then
  some (false:Bool)
 else
  ds (cntM (gr p0 p1) p1.length 0 ()) λq2=>
  aft (λr=>some r) (λs3=>
   some (true:Bool)) q2
def g9 (p0:Parity) (p1:(List Int)) (v7:Int) (s1:(List (List Int))):Option ((Parity×Bool)⊕(((List (List Int)))⊕((List (List Int))))):=
 ds (idx p0.Arena.Next v7) λx38=>
 ds (di x38) λx40=>
 ds (idx p1 v7) λx43=>
 ds (bif decide (0<=x43) then
  ds (idx p1 v7) λx48=>
  some (([x48]:List Int):(List Int))
 else
  some (x40:(List Int))) λq4=>
 ds (appS 24 s1 ([q4]:List (List Int))) λx56=>
 some (.inr (.inr (x56:(List (List Int)))))
def kS (p0:Parity) (p1:(List Int)):Option (Parity×Bool):=
 ds (fH p0) λx10=>
 ds (bif (!x10) then
 some true
 else
 ds (j7 p0 p1) λx15=>
 some (!x15)) λp17=>
 bif p17 then
  some (((⟨(⟨([]:List Int),([]:List (List Int))⟩:Arena),([]:List Int)⟩:Parity):Parity),(false:Bool))
 else
  ds (di p0.Arena.Owner) λx22=>
  ds (di p0.Prio) λx26=>
  ds (cntM (g9 p0 p1) p1.length 0 (((⟨(⟨x22,([]:List (List Int))⟩:Arena),x26⟩:Parity).Arena).Next:(List (List Int)))) λq2=>
  aft (λr=>some r) (λs3=>
   some (((⟨(⟨((⟨(⟨x22,([]:List (List Int))⟩:Arena),x26⟩:Parity).Arena).Owner,s3⟩:Arena),(⟨(⟨x22,([]:List (List Int))⟩:Arena),x26⟩:Parity).Prio⟩:Parity):Parity),(true:Bool))) q2
def jF  (v4:Int) (s1:(List Bool)):Option ((List Bool)⊕(((List Bool))⊕((List Bool)))):=
 ds (idx s1 v4) λx14=>
 ds (setI s1 v4 true) λy237=>
 some (.inr (.inr (y237:(List Bool))))
def mD (p0:Int):Option ((List Bool)):=
 ds (mkS 1 p0 (false:Bool)) λx6=>
 ds (rng p0) λ_=>
 ds (cntM jF (vH (p0-0)) 0 (x6:(List Bool))) λq2=>
 aft (λr=>some r) (λs3=>
  some (s3:(List Bool))) q2
def fI (x12:(List Bool)) (v5:Int) (s1:(List Int)):Option ((List Int)⊕(((List Int))⊕((List Int)))):=
 ds (idx x12 v5) λx23=>
 ds (eb x23) λx25=>
 ds (appS 8 s1 ([(IntKind.i64.wrap (1-x25))]:List Int)) λx28=>
 some (.inr (.inr (x28:(List Int))))
def eY (p0:Parity):Option ((List Int)):=
 ds (mq p0) λx7=>
 ds (mD (p0.Prio.length:Int)) λx11=>
 ds (iL (2 ^ 64) x7 x11) λx12=>
 ds (cntM (fI x12) x12.length 0 (([]:List Int):(List Int))) λq2=>
 aft (λr=>some r) (λs3=>
  some (s3:(List Int))) q2
def hU (p0:(List Int)) (p1:(List Int)) (v5:Int) (s1:Unit):Option (Bool⊕((Unit)⊕(Unit))):=
 ds (idx p0 v5) λx19=>
 ds (idx p1 v5) λx23=>
 bif (x19 !=x23) then
  some (.inl (false:Bool))
 else
  some (.inr (.inr ()))
def la (p0:(List Int)) (p1:(List Int)):Option (Bool):=
 bif ((p0.length:Int) !=(p1.length:Int)) then
  some (false:Bool)
 else
  ds (cntM (hU p0 p1) p0.length 0 ()) λq2=>
  aft (λr=>some r) (λs3=>
   some (true:Bool)) q2
def ja (p0:Parity) (p1:(List Int)):Option (Bool):=
 ds (kS p0 p1) λx10=>
 ds (bif x10.2 then
 ds (eY x10.1) λx16=>
 ds (eY p0) λx18=>
 ds (la x16 x18) λx19=>
 some x19
 else
 some false) λp20=>
 some (p20:Bool)
def fE (p0:(List Int)) (p1:Int) (v6:Int) (s1:(List Bool)):Option ((List Bool)⊕(((List Bool))⊕((List Bool)))):=
 ds (idx p0 v6) λx20=>
 ds (idx s1 v6) λx24=>
 ds (setI s1 v6 (x20==p1)) λy249=>
 some (.inr (.inr (y249:(List Bool))))
def eO (p0:(List Int)) (p1:Int):Option ((List Bool)):=
 ds (mkS 1 (p0.length:Int) (false:Bool)) λx9=>
 ds (cntM (fE p0 p1) p0.length 0 (x9:(List Bool))) λq2=>
 aft (λr=>some r) (λs3=>
  some (s3:(List Bool))) q2
def fW (p1:(List Bool)) (p2:Int) (x11:(List Bool)) (v8:Int) (s1:Unit):Option (Bool⊕((Unit)⊕(Unit))):=
 ds (idx p1 v8) λx20=>
 ds (bif x20 then
 ds (idx x11 v8) λx25=>
 some (x25 !=(p2==0))
 else
 some false) λp30=>
 bif p30 then
  some (.inl (false:Bool))
 else
  some (.inr (.inr ()))
def ka (p0:l7Game) (p1:(List Bool)) (p2:Int):Option (Bool):=
 ds (iL (2 ^ 64) p0 p1) λx11=>
 ds (cntM (fW p1 p2 x11) p1.length 0 ()) λq2=>
 aft (λr=>some r) (λs3=>
  some (true:Bool)) q2
def ij (p0:l7Game) (p1:(List Bool)) (p2:Int) (s1:Int×(List Int)):Option ((Int×(List Int))⊕((Int×(List Int))⊕(Int×(List Int)))):=
 ds (idx p0.next p2) λx13=>
 bif decide (s1.1<(x13.length:Int)) then
  ds (idx p0.next p2) λx22=>
  ds (idx x22 s1.1) λx25=>
  ds (idx p1 x25) λx29=>
  bif (!x29) then
   some (.inr (.inr (((IntKind.i64.wrap (s1.1+1)):Int),(s1.2:(List Int)))))
  else
   ds (idx s1.2 p2) λx36=>
   ds (setI s1.2 p2 x25) λy252=>
   ds (idx p0.owner p2) λx42=>
   ds (ka (⟨p0.owner,p0.prio,p0.next,p0.prev,y252⟩:l7Game) p1 x42) λx44=>
   bif x44 then
    some (.inl ((x25:Int),(y252:(List Int))))
   else
    some (.inr (.inr (((IntKind.i64.wrap (s1.1+1)):Int),(y252:(List Int)))))
 else
  some (.inr (.inl ((s1.1:Int),(s1.2:(List Int)))))
def lh (p0:l7Game) (p1:(List Bool)) (p2:Int):Option (Int×(List Int)):=
 ds (whileM (ij p0 p1 p2) (2 ^ 64) ((0:Int),(p0.pick:(List Int)))) λq2=>
 aft (λr=>some r) (λs3=>
  some (((-1):Int),(s3.2:(List Int)))) q2
def fp (p0:Parity) (p1:(List Int)) (x19:(List Int)) (v8:Int) (s1:(List Int)):Option ((Answer×Bool)⊕(((List Int))⊕((List Int)))):=
 ds (idx p1 v8) λx30=>
 ds (bif (x30 !=(-1)) then
 ds (idx x19 v8) λx36=>
 ds (idx p0.Arena.Owner v8) λx42=>
 some (x36 !=x42)
 else
 some false) λp45=>
 bif p45 then
  some (.inl (((⟨([]:List Int),([]:List Int)⟩:Answer):Answer),(false:Bool)))
 else
  ds (idx p1 v8) λx52=>
  ds (idx s1 v8) λx54=>
  ds (setI s1 v8 x52) λy246=>
  some (.inr (.inr (y246:(List Int))))
def fj (p0:Parity) (x19:(List Int)) (x21:l7Game) (x56:(List Bool)) (x58:(List Bool)) (v11:Int) (s4:(List Int)):Option ((Answer×Bool)⊕(((List Int))⊕((List Int)))):=
 ds (idx s4 v11) λx68=>
 ds (bif decide (0<=x68) then
 some true
 else
 ds (idx x19 v11) λx74=>
 ds (idx p0.Arena.Owner v11) λx80=>
 some (x74 !=x80)) λp83=>
 bif p83 then
  some (.inr (.inr (s4:(List Int))))
 else
  ds (idx x19 v11) λx87=>
  ds (bif (x87==1) then
   some (x58:(List Bool))
  else
   some (x56:(List Bool))) λq7=>
  ds (lh (⟨x21.owner,x21.prio,x21.next,x21.prev,s4⟩:l7Game) q7 v11) λx97=>
  ds (idx x97.2 v11) λx98=>
  ds (setI x97.2 v11 x97.1) λy255=>
  some (.inr (.inr (y255:(List Int))))
def jC (p0:Parity) (p1:(List Int)):Option (Answer×Bool):=
 ds (ja p0 p1) λx15=>
 bif (!x15) then
  some (((⟨([]:List Int),([]:List Int)⟩:Answer):Answer),(false:Bool))
 else
  ds (eY p0) λx19=>
  ds (mq p0) λx21=>
  ds (cntM (fp p0 p1 x19) p1.length 0 (x21.pick:(List Int))) λq2=>
  aft (λr=>some r) (λs3=>
   ds (eO x19 0) λx56=>
   ds (eO x19 1) λx58=>
   ds (cntM (fj p0 x19 x21 x56 x58) x19.length 0 (s3:(List Int))) λq5=>
   aft (λr=>some r) (λs6=>
    some (((⟨x19,s6⟩:Answer):Answer),(true:Bool))) q5) q2
def jX (p0:Parity):Option (Answer):=
 ds (fH p0) λx6=>
 bif (!x6) then
  some ((⟨([]:List Int),([]:List Int)⟩:Answer):Answer)
 else
  ds (lu (p0.Prio.length:Int)) λx14=>
  ds (jC p0 x14) λx15=>
  some (x15.1:Answer)
def iO (p0:Sig):Option (Int):=
 ds (cY p0.Out) λx5=>
 some (x5:Int)
def jn (p0:(List Int)) (p1:(List Place)) (p2:Int) (v7:Int) (s1:Unit):Option (Int⊕((Unit)⊕(Unit))):=
 ds (idx p0 v7) λx17=>
 ds (idx p1 x17) λx19=>
 bif (x19.At==p2) then
  ds (idx p0 v7) λx26=>
  some (.inl (x26:Int))
 else
  some (.inr (.inr ()))
def mH (p0:(List Int)) (p1:(List Place)) (p2:Int):Option (Int):=
 ds (cntM (jn p0 p1 p2) p0.length 0 ()) λq2=>
 aft (λr=>some r) (λs3=>
  some ((-1):Int)) q2
def gb (p0:(List Int)) (p1:Int) (v5:Int) (s1:Unit):Option (Int⊕((Unit)⊕(Unit))):=
 ds (idx p0 v5) λx14=>
 bif (x14==p1) then
  some (.inl (v5:Int))
 else
  some (.inr (.inr ()))
def jV (p0:(List Int)) (p1:Int):Option (Int):=
 ds (cntM (gb p0 p1) p0.length 0 ()) λq2=>
 aft (λr=>some r) (λs3=>
  some ((-1):Int)) q2
def dA (p0:Sig) (x29:Det×Bool) (x42:Parity×(List Place)×Bool) (x81:Place) (x90:Int) (x94:Place) (x100:Int) (s4:(List Int)×(List Int)×Int):Option ((Rival×Bool)⊕(((List Int)×(List Int)×Int)⊕((List Int)×(List Int)×Int))):=
 ds (iO p0) λx105=>
 bif decide (s4.2.2<x105) then
  ds (idx x42.1.Arena.Next x90) λx113=>
  ds (idx x29.1.Next x81.At) λx119=>
  ds (gH p0 (Int.tmod (IntKind.i64.wrap (x94.At-(x29.1.Next.length:Int))) x100) s4.2.2) λx124=>
  ds (idx x119 x124) λx125=>
  ds (mH x113 x42.2.1 x125) λx127=>
  ds (jV s4.1 x127) λx130=>
  ds (bif decide (x130<0) then
   ds (appS 8 s4.1 ([x127]:List Int)) λx138=>
   some ((x138:(List Int)),((s4.1.length:Int):Int))
  else
   some ((s4.1:(List Int)),(x130:Int))) λq7=>
  ds (appS 8 s4.2.1 ([q7.2]:List Int)) λx142=>
  some (.inr (.inr ((q7.1:(List Int)),(x142:(List Int)),((IntKind.i64.wrap (s4.2.2+1)):Int))))
 else
  some (.inr (.inl ((s4.1:(List Int)),(s4.2.1:(List Int)),(s4.2.2:Int))))
def c9 (p0:Sig) (x29:Det×Bool) (x42:Parity×(List Place)×Bool) (x58:Answer) (s1:(List Int)×Int×(List Int)×(List (List Int))):Option ((Rival×Bool)⊕(((List Int)×Int×(List Int)×(List (List Int)))⊕((List Int)×Int×(List Int)×(List (List Int))))):=
 bif decide (s1.2.1<(s1.1.length:Int)) then
  ds (idx s1.1 s1.2.1) λx79=>
  ds (idx x42.2.1 x79) λx81=>
  ds (idx s1.1 s1.2.1) λx88=>
  ds (idx x58.Plan x88) λx90=>
  ds (idx x42.2.1 x90) λx94=>
  ds (eD p0) λx100=>
  ds (nz x100) λ_z101=>
  ds (whileM (dA p0 x29 x42 x81 x90 x94 x100) (2 ^ 64) ((s1.1:(List Int)),(([]:List Int):(List Int)),(0:Int))) λq5=>
  aft (λr=>some (.inl r)) (λs6=>
   ds (appS 8 s1.2.2.1 ([(Int.tmod (IntKind.i64.wrap (x94.At-(x29.1.Next.length:Int))) x100)]:List Int)) λx147=>
   ds (appS 24 s1.2.2.2 ([s6.2.1]:List (List Int))) λx153=>
   some (.inr (.inr ((s6.1:(List Int)),((IntKind.i64.wrap (s1.2.1+1)):Int),(x147:(List Int)),(x153:(List (List Int))))))) q5
 else
  some (.inr (.inl ((s1.1:(List Int)),(s1.2.1:Int),(s1.2.2.1:(List Int)),(s1.2.2.2:(List (List Int))))))
def fP (p0:Sig) (p1:(List Clause)):Option (Rival×Bool):=
 ds (df p0 p1) λx29=>
 ds (cT p0 x29.1) λx35=>
 ds (c8 x35.1 x35.2.1 0) λx42=>
 ds (bif (!x29.2) then
 some true
 else
 some (!x35.2.2)) λp51=>
 ds (bif p51 then
 some true
 else
 some (!x42.2.2)) λp55=>
 bif p55 then
  some (((⟨([]:List Int),([]:List (List Int))⟩:Rival):Rival),(false:Bool))
 else
  ds (jX x42.1) λx58=>
  ds (idx x58.Won 0) λx61=>
  bif (x61==0) then
   some (((⟨([]:List Int),([]:List (List Int))⟩:Rival):Rival),(false:Bool))
  else
   ds (whileM (c9 p0 x29 x42 x58) (2 ^ 64) ((([0]:List Int):(List Int)),(0:Int),(([]:List Int):(List Int)),(([]:List (List Int)):(List (List Int))))) λq2=>
   aft (λr=>some r) (λs3=>
    some (((⟨s3.2.2.1,s3.2.2.2⟩:Rival):Rival),(true:Bool))) q2
def gP (p0:Sig) (p1:(List Clause)):Option (Int):=
 ds (fw p0 p1) λx9=>
 bif x9 then
  some (0:Int)
 else
  ds (fP p0 p1) λx13=>
  bif x13.2 then
   some (1:Int)
  else
   some ((-1):Int)
def lI (p0:Sig):Option (Bool):=
 ds (bif decide (1<=p0.In) then
 some (decide (p0.In<=2))
 else
 some false) λp10=>
 ds (bif p10 then
 some (decide (1<=p0.Out))
 else
 some false) λp15=>
 ds (bif p15 then
 some (decide (p0.Out<=2))
 else
 some false) λp20=>
 some (p20:Bool)
def cM (p0:Sig):Option (Int):=
 ds (nn (IntKind.i64.wrap (p0.In+p0.Out))) λ_z8=>
 some ((IntKind.i64.wrap (1 * 2 ^ (min (vH (IntKind.i64.wrap (p0.In+p0.Out))) (IntKind.bits IntKind.i64)))):Int)
def jm (p0:(List Int)) (p1:Int) (v9:Int) (s1:Unit):Option (Bool⊕((Unit)⊕(Unit))):=
 ds (idx p0 v9) λx12=>
 ds (bif decide (x12<0) then
 some true
 else
 some (decide (p1<=x12))) λp20=>
 ds (bif p20 then
 some true
 else
 ds (bif decide (0<v9) then
 ds (idx p0 (IntKind.i64.wrap (v9-1))) λx29=>
 some (decide (x12<=x29))
 else
 some false) λp32=>
 some p32) λp33=>
 bif p33 then
  some (.inl (false:Bool))
 else
  some (.inr (.inr ()))
def iJ (p0:(List Int)) (p1:Int):Option (Bool):=
 ds (cntM (jm p0 p1) p0.length 0 ()) λq2=>
 aft (λr=>some r) (λs3=>
  some (true:Bool)) q2
def jL (p0:Int):Option (Bool):=
 ds (bif (p0==2) then
 some true
 else
 some (p0==3)) λp8=>
 ds (bif p8 then
 some true
 else
 some (p0==7)) λp12=>
 some (p12:Bool)
def i7 (p0:Sig) (p1:Clause):Option (Bool):=
 ds (bif decide (p1.Kind<1) then
 some true
 else
 some (decide (7<p1.Kind))) λp12=>
 ds (bif p12 then
 some true
 else
 ds (cM p0) λx17=>
 ds (iJ p1.A x17) λx18=>
 some (!x18)) λp20=>
 ds (bif p20 then
 some true
 else
 ds (cM p0) λx25=>
 ds (iJ p1.B x25) λx26=>
 some (!x26)) λp28=>
 bif p28 then
  some (false:Bool)
 else
  ds (jL p1.Kind) λx31=>
  ds (bif x31 then
  some true
  else
  some ((p1.B.length:Int)==0)) λp37=>
  some (p37:Bool)
def dw (p0:Clause) (c0:Sig):Option (Bool):=
 ds (i7 c0 p0) λx6=>
 some ((!x6):Bool)
def bQ (p0:(List Clause)) (c1_0:Sig) (v8:Int) (s1:Unit):Option (Int⊕((Unit)⊕(Unit))):=
 ds (idx p0 v8) λx14=>
 ds (dw x14 c1_0) λx16=>
 bif x16 then
  some (.inl (v8:Int))
 else
  some (.inr (.inr ()))
def bS (p0:(List Clause)) (c1_0:Sig):Option (Int):=
 ds (cntM (bQ p0 c1_0) p0.length 0 ()) λq2=>
 aft (λr=>some r) (λs3=>
  some ((-1):Int)) q2
def bP (p0:(List Clause)) (c1_0:Sig):Option (Bool):=
 ds (bS p0 c1_0) λx7=>
 some (decide (0<=x7):Bool)
def gw (p0:Sig) (p1:(List Clause)):Option (Bool):=
 ds (bif decide ((p1.length:Int)<=3) then
 ds (bP p1 p0) λx11=>
 some (!x11)
 else
 some false) λp13=>
 some (p13:Bool)
def cA (p0:(List Int)) (p1:Int) (v8:Int) (s1:Unit):Option (Int⊕((Unit)⊕(Unit))):=
 ds (idx p0 v8) λx14=>
 bif (p1==x14) then
  some (.inl (v8:Int))
 else
  some (.inr (.inr ()))
def cn (p0:(List Int)) (p1:Int):Option (Int):=
 ds (cntM (cA p0 p1) p0.length 0 ()) λq2=>
 aft (λr=>some r) (λs3=>
  some ((-1):Int)) q2
def bN (p0:(List Int)) (p1:Int):Option (Bool):=
 ds (cn p0 p1) λx7=>
 some (decide (0<=x7):Bool)
def fB (p0:Int) (p1:Int) (p2:Bool) (p3:Bool):Option (Int):=
 ds (bif p2 then
  some (1:Int)
 else
  some (0:Int)) λq1=>
 ds (bif p3 then
  some ((true:Bool),(1:Int))
 else
  some ((false:Bool),(0:Int))) λq2=>
 bif (p0==1) then
  some ((if p1<(IntKind.i64.wrap (1-q1)) then(IntKind.i64.wrap (1-q1)) else p1):Int)
 else
  bif (p0==2) then
   ds (bif (p1==2) then
   some true
   else
   ds (bif (p1==1) then
   some (!q2.1)
   else
   some false) λp30=>
   some p30) λp31=>
   bif p31 then
    some (2:Int)
   else
    some (q1:Int)
  else
   bif (p0==3) then
    bif q2.1 then
     some (0:Int)
    else
     some ((if p1<q1 then q1 else p1):Int)
   else
    bif (p0==4) then
     some (q1:Int)
    else
     bif (p0==5) then
      some ((IntKind.i64.wrap (1-q1)):Int)
     else
      bif (p0==6) then
       some ((if p1<q1 then q1 else p1):Int)
      else
       some ((IntKind.i64.wrap ((IntKind.i64.wrap (2 * q1))+q2.2)):Int)
def dF (p1:Clause) (v44:Int) (v50:Int) (s10:(List Int)):Option (Det⊕(((List Int))⊕((List Int)))):=
 ds (bN p1.A v50) λx60=>
 ds (bN p1.B v50) λx64=>
 ds (fB p1.Kind v44 x60 x64) λx65=>
 ds (appS 8 s10 ([x65]:List Int)) λx67=>
 some (.inr (.inr (x67:(List Int))))
def dS (p0:Sig) (p1:Clause) (v44:Int) (s7:(List (List Int))):Option (Det⊕(((List (List Int)))⊕((List (List Int))))):=
 ds (cM p0) λx49=>
 ds (rng x49) λ_=>
 ds (cntM (dF p1 v44) (vH (x49-0)) 0 (([]:List Int):(List Int))) λq11=>
 aft (λr=>some (.inl r)) (λs12=>
  ds (appS 24 s7 ([s12]:List (List Int))) λx73=>
  some (.inr (.inr (x73:(List (List Int)))))) q11
def ic (p0:Sig) (p1:Clause):Option (Det):=
 ds (bif (p1.Kind==1) then
  some (true:Bool)
 else
  some ((p1.Kind==5):Bool)) λq1=>
 ds (bif q1 then
  some ((2:Int),(([1]:List Int):(List Int)),(([]:List Int):(List Int)))
 else
  ds (bif (p1.Kind==2) then
   some ((3:Int),(([2]:List Int):(List Int)),(([]:List Int):(List Int)))
  else
   ds (bif (p1.Kind==3) then
    some ((2:Int),(([1]:List Int):(List Int)),(([0]:List Int):(List Int)))
   else
    ds (bif (p1.Kind==4) then
     some ((2:Int),(([0,1]:List Int):(List Int)),(([1]:List Int):(List Int)))
    else
     ds (bif (p1.Kind==6) then
      some ((2:Int),(([0]:List Int):(List Int)),(([]:List Int):(List Int)))
     else
      some ((4:Int),(([2,3]:List Int):(List Int)),(([1,3]:List Int):(List Int)))) λq6=>
     some ((q6.1:Int),(q6.2.1:(List Int)),(q6.2.2:(List Int)))) λq5=>
    some ((q5.1:Int),(q5.2.1:(List Int)),(q5.2.2:(List Int)))) λq4=>
   some ((q4.1:Int),(q4.2.1:(List Int)),(q4.2.2:(List Int)))) λq3=>
  some ((q3.1:Int),(q3.2.1:(List Int)),(q3.2.2:(List Int)))) λq2=>
 ds (rng q2.1) λ_=>
 ds (cntM (dS p0 p1) (vH (q2.1-0)) 0 (([]:List (List Int)):(List (List Int)))) λq8=>
 aft (λr=>some r) (λs9=>
  some ((⟨s9,([(⟨q2.2.1,q2.2.2⟩:Pair)]:List Pair)⟩:Det):Det)) q8
def ch (p0:(List (Int×Int))) (p1:(Int×Int)) (v8:Int) (s1:Unit):Option (Int⊕((Unit)⊕(Unit))):=
 ds (idx p0 v8) λx14=>
 bif ((p1.1==x14.1)&&(p1.2==x14.2)) then
  some (.inl (v8:Int))
 else
  some (.inr (.inr ()))
def cj (p0:(List (Int×Int))) (p1:(Int×Int)):Option (Int):=
 ds (cntM (ch p0 p1) p0.length 0 ()) λq2=>
 aft (λr=>some r) (λs3=>
  some ((-1):Int)) q2
def dI (p1:Det) (s1:(List (Int×Int))×Int×(List (List Int))) (x47:(List Int)) (v50:Int) (s4:(List (Int×Int))×(List Int)):Option ((Det×Bool)⊕(((List (Int×Int))×(List Int))⊕((List (Int×Int))×(List Int)))):=
 ds (idx x47 v50) λx53=>
 ds (idx s4.1 s1.2.1) λx60=>
 ds (idx p1.Next x60.2) λx63=>
 ds (idx x63 v50) λx66=>
 ds (cj s4.1 (x53,x66)) λx71=>
 ds (bif decide (x71<0) then
  ds (appS 16 s4.1 ([(x53,x66)]:List (Int×Int))) λx79=>
  some ((x79:(List (Int×Int))),((s4.1.length:Int):Int))
 else
  some ((s4.1:(List (Int×Int))),(x71:Int))) λq7=>
 ds (appS 8 s4.2 ([q7.2]:List Int)) λx83=>
 some (.inr (.inr ((q7.1:(List (Int×Int))),(x83:(List Int)))))
def eK (p0:Det) (p1:Det) (s1:(List (Int×Int))×Int×(List (List Int))):Option ((Det×Bool)⊕(((List (Int×Int))×Int×(List (List Int)))⊕((List (Int×Int))×Int×(List (List Int))))):=
 bif decide (s1.2.1<(s1.1.length:Int)) then
  ds (idx s1.1 s1.2.1) λx44=>
  ds (idx p0.Next x44.1) λx47=>
  ds (cntM (dI p1 s1 x47) x47.length 0 ((s1.1:(List (Int×Int))),(([]:List Int):(List Int)))) λq5=>
  aft (λr=>some (.inl r)) (λs6=>
   bif decide (48<(s6.1.length:Int)) then
    some (.inl (((⟨([]:List (List Int)),([]:List Pair)⟩:Det):Det),(false:Bool)))
   else
    ds (appS 24 s1.2.2 ([s6.2]:List (List Int))) λx93=>
    some (.inr (.inr ((s6.1:(List (Int×Int))),((IntKind.i64.wrap (s1.2.1+1)):Int),(x93:(List (List Int))))))) q5
 else
  some (.inr (.inl ((s1.1:(List (Int×Int))),(s1.2.1:Int),(s1.2.2:(List (List Int))))))
def eS (s3:(List (Int×Int))×Int×(List (List Int))) (v99:Int) (x109:Pair) (v114:Int) (s14:(List Int)×(List Int)):Option ((Det×Bool)⊕(((List Int)×(List Int))⊕((List Int)×(List Int)))):=
 ds (idx s3.1 v114) λx117=>
 ds (idx ([x117.1,x117.2]:List Int) v99) λx122=>
 ds (bN x109.Ask x122) λx124=>
 ds (bif x124 then
  ds (appS 8 s14.1 ([v114]:List Int)) λx129=>
  some (x129:(List Int))
 else
  some (s14.1:(List Int))) λq17=>
 ds (idx ([x117.1,x117.2]:List Int) v99) λx134=>
 ds (bN x109.Give x134) λx136=>
 ds (bif x136 then
  ds (appS 8 s14.2 ([v114]:List Int)) λx141=>
  some (x141:(List Int))
 else
  some (s14.2:(List Int))) λq18=>
 some (.inr (.inr ((q17:(List Int)),(q18:(List Int)))))
def cN (s3:(List (Int×Int))×Int×(List (List Int))) (v99:Int) (x102:Det) (v107:Int) (s11:(List Pair)):Option ((Det×Bool)⊕(((List Pair))⊕((List Pair)))):=
 ds (idx x102.Pairs v107) λx109=>
 ds (cntM (eS s3 v99 x109) s3.1.length 0 ((([]:List Int):(List Int)),(([]:List Int):(List Int)))) λq15=>
 aft (λr=>some (.inl r)) (λs16=>
  ds (appS 48 s11 ([(⟨s16.1,s16.2⟩:Pair)]:List Pair)) λx148=>
  some (.inr (.inr (x148:(List Pair))))) q15
def cv (p0:Det) (p1:Det) (s3:(List (Int×Int))×Int×(List (List Int))) (v99:Int) (s8:(List Pair)):Option ((Det×Bool)⊕(((List Pair))⊕((List Pair)))):=
 ds (idx ([p0,p1]:List Det) v99) λx102=>
 ds (cntM (cN s3 v99 x102) x102.Pairs.length 0 (s8:(List Pair))) λq12=>
 aft (λr=>some (.inl r)) (λs13=>
  some (.inr (.inr (s13:(List Pair))))) q12
def fS (p0:Det) (p1:Det):Option (Det×Bool):=
 bif decide (4<(IntKind.i64.wrap ((p0.Pairs.length:Int)+(p1.Pairs.length:Int)))) then
  some (((⟨([]:List (List Int)),([]:List Pair)⟩:Det):Det),(false:Bool))
 else
  ds (whileM (eK p0 p1) (2 ^ 64) ((([(0,0)]:List (Int×Int)):(List (Int×Int))),(0:Int),(([]:List (List Int)):(List (List Int))))) λq2=>
  aft (λr=>some r) (λs3=>
   ds (cntM (cv p0 p1 s3) ([p0,p1]:List Det).length 0 (([]:List Pair):(List Pair))) λq9=>
   aft (λr=>some r) (λs10=>
    some (((⟨s3.2.2,s10⟩:Det):Det),(true:Bool))) q9) q2
def dG (p0:Sig) (p1:(List Clause)) (v28:Int) (s1:(List (List Int))×(List Pair)):Option ((Det×Bool)⊕(((List (List Int))×(List Pair))⊕((List (List Int))×(List Pair)))):=
 ds (idx p1 v28) λx30=>
 ds (ic p0 x30) λx36=>
 ds (fS (⟨s1.1,s1.2⟩:Det) x36) λx37=>
 bif (!x37.2) then
  some (.inl (((⟨([]:List (List Int)),([]:List Pair)⟩:Det):Det),(false:Bool)))
 else
  some (.inr (.inr ((x37.1.Next:(List (List Int))),(x37.1.Pairs:(List Pair)))))
def dh (p0:Sig) (p1:(List Clause)):Option (Det×Bool):=
 ds (lI p0) λx12=>
 ds (bif (!x12) then
 some true
 else
 ds (gw p0 p1) λx17=>
 some (!x17)) λp19=>
 bif p19 then
  some (((⟨([]:List (List Int)),([]:List Pair)⟩:Det):Det),(false:Bool))
 else
  ds (cM p0) λx22=>
  ds (mkS 8 x22 (0:Int)) λx23=>
  ds (cntM (dG p0 p1) p1.length 0 ((([x23]:List (List Int)):(List (List Int))),(([]:List Pair):(List Pair)))) λq2=>
  aft (λr=>some r) (λs3=>
   some (((⟨s3.1,s3.2⟩:Det):Det),(true:Bool))) q2
def ff (p0:(List Pair)) (p1:Int) (v9:Int) (s1:Unit):Option (Bool⊕((Unit)⊕(Unit))):=
 ds (idx p0 v9) λx11=>
 ds (iJ x11.Ask p1) λx16=>
 ds (bif (!x16) then
 some true
 else
 ds (iJ x11.Give p1) λx22=>
 some (!x22)) λp24=>
 bif p24 then
  some (.inl (false:Bool))
 else
  some (.inr (.inr ()))
def fK (p0:(List Pair)) (p1:Int):Option (Bool):=
 ds (cntM (ff p0 p1) p0.length 0 ()) λq2=>
 aft (λr=>some r) (λs3=>
  some (decide ((p0.length:Int)<=4):Bool)) q2
def dP (p0:Int) (c0:Int):Option (Bool):=
 ds (bif decide (p0<0) then
 some true
 else
 some (decide (c0<=p0))) λp10=>
 some (p10:Bool)
def bY (p0:(List Int)) (c1_0:Int) (v8:Int) (s1:Unit):Option (Int⊕((Unit)⊕(Unit))):=
 ds (idx p0 v8) λx14=>
 ds (dP x14 c1_0) λx16=>
 bif x16 then
  some (.inl (v8:Int))
 else
  some (.inr (.inr ()))
def cb (p0:(List Int)) (c1_0:Int):Option (Int):=
 ds (cntM (bY p0 c1_0) p0.length 0 ()) λq2=>
 aft (λr=>some r) (λs3=>
  some ((-1):Int)) q2
def bX (p0:(List Int)) (c1_0:Int):Option (Bool):=
 ds (cb p0 c1_0) λx7=>
 some (decide (0<=x7):Bool)
def gj (p0:(List Int)) (p1:Int):Option (Bool):=
 ds (bX p0 p1) λx7=>
 some ((!x7):Bool)
def jc (p0:Sig) (p1:Det) (v27:Int) (s1:Unit):Option (Bool⊕((Unit)⊕(Unit))):=
 ds (idx p1.Next v27) λx29=>
 ds (cM p0) λx34=>
 ds (bif ((x29.length:Int) !=x34) then
 some true
 else
 ds (gj x29 (p1.Next.length:Int)) λx39=>
 some (!x39)) λp41=>
 bif p41 then
  some (.inl (false:Bool))
 else
  some (.inr (.inr ()))
def lJ (p0:Sig) (p1:Det):Option (Bool):=
 ds (bif decide ((p1.Next.length:Int)<1) then
 some true
 else
 some (decide (48<(p1.Next.length:Int)))) λp16=>
 ds (bif p16 then
 some true
 else
 ds (fK p1.Pairs (p1.Next.length:Int)) λx21=>
 some (!x21)) λp23=>
 bif p23 then
  some (false:Bool)
 else
  ds (cntM (jc p0 p1) p1.Next.length 0 ()) λq2=>
  aft (λr=>some r) (λs3=>
   some (true:Bool)) q2
def fG (p0:Sig):Option (Int):=
 ds (nn p0.In) λ_z5=>
 some ((IntKind.i64.wrap (1 * 2 ^ (min (vH p0.In) (IntKind.bits IntKind.i64)))):Int)
def cm (p0:(List Int)):Option (List Int):=
 if 0<p0.length/\p0.length<4611686018427387904 then some (p0.mergeSort λx y=>decide (x<=y)) else if p0.length=0 then some p0 else none
def cD (p0:(List Int)):Option (List Int):=
 if 0<p0.length/\p0.length<4611686018427387904 then some (Go.Lib.compact p0) else none
def kn (p0:Pair):Option (Pair):=
 ds (appS 8 ([]:List Int) p0.Ask) λx6=>
 ds (appS 8 ([]:List Int) p0.Give) λx10=>
 some ((⟨x6,x10⟩:Pair):Pair)
def dx (p1:Det) (x24:Int) (v26:Int) (v31:Int) (s4:(List Int)):Option ((Arena×(List Pair))⊕(((List Int))⊕((List Int)))):=
 ds (appS 8 s4 ([(IntKind.i64.wrap ((IntKind.i64.wrap ((p1.Next.length:Int)+(IntKind.i64.wrap (v26 * x24))))+v31))]:List Int)) λx43=>
 some (.inr (.inr (x43:(List Int))))
def dM (p1:Det) (x24:Int) (v26:Int) (s1:(List Int)×(List (List Int))):Option ((Arena×(List Pair))⊕(((List Int)×(List (List Int)))⊕((List Int)×(List (List Int))))):=
 ds (rng x24) λ_=>
 ds (cntM (dx p1 x24 v26) (vH (x24-0)) 0 (([]:List Int):(List Int))) λq5=>
 aft (λr=>some (.inl r)) (λs6=>
  ds (appS 8 s1.1 ([1]:List Int)) λx48=>
  ds (appS 24 s1.2 ([s6]:List (List Int))) λx54=>
  some (.inr (.inr ((x48:(List Int)),(x54:(List (List Int))))))) q5
def dL (p1:Det) (x24:Int) (v58:Int) (v62:Int) (v69:Int) (s13:(List Int)):Option ((Arena×(List Pair))⊕(((List Int))⊕((List Int)))):=
 ds (idx p1.Next v58) λx76=>
 ds (idx x76 (IntKind.i64.wrap ((IntKind.i64.wrap (v69 * x24))+v62))) λx83=>
 ds (appS 8 s13 ([x83]:List Int)) λx86=>
 some (.inr (.inr (x86:(List Int))))
def dv (p0:Sig) (p1:Det) (x24:Int) (v58:Int) (v62:Int) (s10:(List Int)×(List (List Int))):Option ((Arena×(List Pair))⊕(((List Int)×(List (List Int)))⊕((List Int)×(List (List Int))))):=
 ds (nn p0.Out) λ_z68=>
 ds (rng (IntKind.i64.wrap (1 * 2 ^ (min (vH p0.Out) (IntKind.bits IntKind.i64))))) λ_=>
 ds (cntM (dL p1 x24 v58 v62) (vH ((IntKind.i64.wrap (1 * 2 ^ (min (vH p0.Out) (IntKind.bits IntKind.i64))))-0)) 0 (([]:List Int):(List Int))) λq14=>
 aft (λr=>some (.inl r)) (λs15=>
  ds (cm s15) λx89=>
  ds (appS 8 s10.1 ([0]:List Int)) λx93=>
  ds (cD x89) λx98=>
  ds (appS 24 s10.2 ([x98]:List (List Int))) λx100=>
  some (.inr (.inr ((x93:(List Int)),(x100:(List (List Int))))))) q14
def dJ (p0:Sig) (p1:Det) (x24:Int) (v58:Int) (s7:(List Int)×(List (List Int))):Option ((Arena×(List Pair))⊕(((List Int)×(List (List Int)))⊕((List Int)×(List (List Int))))):=
 ds (rng x24) λ_=>
 ds (cntM (dv p0 p1 x24 v58) (vH (x24-0)) 0 ((s7.1:(List Int)),(s7.2:(List (List Int))))) λq11=>
 aft (λr=>some (.inl r)) (λs12=>
  some (.inr (.inr ((s12.1:(List Int)),(s12.2:(List (List Int))))))) q11
def dd (p1:Det) (v108:Int) (s16:(List Pair)):Option ((Arena×(List Pair))⊕(((List Pair))⊕((List Pair)))):=
 ds (idx p1.Pairs v108) λx110=>
 ds (kn x110) λx114=>
 ds (appS 48 s16 ([x114]:List Pair)) λx116=>
 some (.inr (.inr (x116:(List Pair))))
def dX (p0:Sig) (p1:Det):Option (Arena×(List Pair)):=
 ds (fG p0) λx24=>
 ds (cntM (dM p1 x24) p1.Next.length 0 ((([]:List Int):(List Int)),(([]:List (List Int)):(List (List Int))))) λq2=>
 aft (λr=>some r) (λs3=>
  ds (cntM (dJ p0 p1 x24) p1.Next.length 0 ((s3.1:(List Int)),(s3.2:(List (List Int))))) λq8=>
  aft (λr=>some r) (λs9=>
   ds (cntM (dd p1) p1.Pairs.length 0 (([]:List Pair):(List Pair))) λq17=>
   aft (λr=>some r) (λs18=>
    some (((⟨s9.1,s9.2⟩:Arena):Arena),(s18:(List Pair)))) q17) q8) q2
def gu (p0:Arena) (v25:Int) (s1:Unit):Option (Bool⊕((Unit)⊕(Unit))):=
 ds (idx p0.Next v25) λx28=>
 ds (idx p0.Owner v25) λx33=>
 ds (bif decide (x33<0) then
 some true
 else
 ds (idx p0.Owner v25) λx40=>
 some (decide (1<x40))) λp43=>
 ds (bif p43 then
 some true
 else
 some (decide ((x28.length:Int)<1))) λp48=>
 ds (bif p48 then
 some true
 else
 some (decide (16<(x28.length:Int)))) λp53=>
 ds (bif p53 then
 some true
 else
 ds (iJ x28 (p0.Owner.length:Int)) λx57=>
 some (!x57)) λp59=>
 bif p59 then
  some (.inl (false:Bool))
 else
  some (.inr (.inr ()))
def gK (p0:Arena):Option (Bool):=
 ds (bif decide ((p0.Owner.length:Int)<1) then
 some true
 else
 some (decide (256<(p0.Owner.length:Int)))) λp14=>
 ds (bif p14 then
 some true
 else
 some ((p0.Next.length:Int) !=(p0.Owner.length:Int))) λp21=>
 bif p21 then
  some (false:Bool)
 else
  ds (cntM (gu p0) p0.Next.length 0 ()) λq2=>
  aft (λr=>some r) (λs3=>
   some (true:Bool)) q2
def kG (p0:Arena):Option (Int):=
 some ((p0.Owner.length:Int):Int)
def ir (p0:Arena) (p1:Int):Option (Bool):=
 ds (bif decide (0<=p1) then
 ds (kG p0) λx10=>
 some (decide (p1<x10))
 else
 some false) λp12=>
 some (p12:Bool)
def ed (p0:(List Pair)) (p1:(List Int)) (p2:Int) (v15:Int) (s1:(List Int)×(List Int)):Option ((List Int)⊕(((List Int)×(List Int))⊕((List Int)×(List Int)))):=
 ds (idx p1 v15) λx17=>
 ds (idx p0 x17) λx21=>
 ds (bN x21.Give p2) λx25=>
 ds (bif x25 then
  ds (appS 8 s1.1 ([x17]:List Int)) λx29=>
  some ((x29:(List Int)),(s1.2:(List Int)))
 else
  ds (appS 8 s1.2 ([x17]:List Int)) λx33=>
  some ((s1.1:(List Int)),(x33:(List Int)))) λq4=>
 some (.inr (.inr ((q4.1:(List Int)),(q4.2:(List Int)))))
def fZ (p0:(List Pair)) (p1:(List Int)) (p2:Int):Option ((List Int)):=
 ds (cntM (ed p0 p1 p2) p1.length 0 ((([]:List Int):(List Int)),(([]:List Int):(List Int)))) λq2=>
 aft (λr=>some r) (λs3=>
  ds (appS 8 s3.1 s3.2) λx37=>
  some (x37:(List Int))) q2
def gx (p0:Place) (c0:(List Pair)):Option ((List Int)):=
 ds (fZ c0 p0.Record p0.At) λx9=>
 some (x9:(List Int))
def cB (p0:(List Int)) (p1:(List Int)) (v13:Int) (s1:Unit):Option (Bool⊕((Unit)⊕(Unit))):=
 ds (idx p0 v13) λx18=>
 ds (idx p1 v13) λx22=>
 bif (x18 !=x22) then
  some (.inl (false:Bool))
 else
  some (.inr (.inr ()))
def cJ (p0:(List Int)) (p1:(List Int)):Option (Bool):=
 bif ((p0.length:Int) !=(p1.length:Int)) then
  some (false:Bool)
 else
  ds (cntM (cB p0 p1) p0.length 0 ()) λq2=>
  aft (λr=>some r) (λs3=>
   some (true:Bool)) q2
def iA (p0:Place) (c0:Int) (c1:(List Int)):Option (Bool):=
 ds (bif (p0.At==c0) then
 ds (cJ p0.Record c1) λx13=>
 some x13
 else
 some false) λp14=>
 some (p14:Bool)
def bU (p0:(List Place)) (c1_0:Int) (c1_1:(List Int)) (v8:Int) (s1:Unit):Option (Int⊕((Unit)⊕(Unit))):=
 ds (idx p0 v8) λx14=>
 ds (iA x14 c1_0 c1_1) λx16=>
 bif x16 then
  some (.inl (v8:Int))
 else
  some (.inr (.inr ()))
def bW (p0:(List Place)) (c1_0:Int) (c1_1:(List Int)):Option (Int):=
 ds (cntM (bU p0 c1_0 c1_1) p0.length 0 ()) λq2=>
 aft (λr=>some r) (λs3=>
  some ((-1):Int)) q2
def j4 (p0:(List Place)) (p1:Int) (p2:(List Int)):Option (Int):=
 ds (bW p0 p1 p2) λx9=>
 some (x9:Int)
def ea (p0:(List Pair)) (p1:(List Int)) (p2:Int) (v13:Int) (s1:Int×Int):Option (Int⊕((Int×Int)⊕(Int×Int))):=
 ds (idx p1 v13) λx16=>
 ds (idx p0 x16) λx20=>
 ds (bN x20.Ask p2) λx24=>
 ds (bif x24 then
  some (v13:Int)
 else
  some (s1.1:Int)) λq4=>
 ds (idx p0 x16) λx28=>
 ds (bN x28.Give p2) λx32=>
 ds (bif x32 then
  some (v13:Int)
 else
  some (s1.2:Int)) λq5=>
 some (.inr (.inr ((q4:Int),(q5:Int))))
def gc (p0:(List Pair)) (p1:(List Int)) (p2:Int):Option (Int):=
 ds (cntM (ea p0 p1 p2) p1.length 0 (((-1):Int),((-1):Int))) λq2=>
 aft (λr=>some r) (λs3=>
  ds (bif decide (s3.1<0) then
  some (decide (s3.2<0))
  else
  some false) λp41=>
  bif p41 then
   some (0:Int)
  else
   bif decide (s3.2<s3.1) then
    some ((IntKind.i64.wrap ((IntKind.i64.wrap (2 * s3.1))+1)):Int)
   else
    some ((IntKind.i64.wrap ((IntKind.i64.wrap (2 * s3.2))+2)):Int)) q2
def ga (p0:Place) (c0:(List Pair)):Option (Int):=
 ds (gc c0 p0.Record p0.At) λx9=>
 some (x9:Int)
def iN (p0:Parity) (p1:Int) (p2:Int) (p3:(List Int)):Option (Parity):=
 ds (appS 8 p0.Arena.Owner ([p1]:List Int)) λx14=>
 ds (appS 24 p0.Arena.Next ([p3]:List (List Int))) λx22=>
 ds (appS 8 p0.Prio ([p2]:List Int)) λx29=>
 some ((⟨(⟨x14,x22⟩:Arena),x29⟩:Parity):Parity)
def bT (x35:(List Int)) (x41:(List Int)) (v44:Int) (s4:(List Place)×(List Int)):Option ((Parity×(List Place)×Bool)⊕(((List Place)×(List Int))⊕((List Place)×(List Int)))):=
 ds (idx x41 v44) λx46=>
 ds (j4 s4.1 x46 x35) λx51=>
 ds (bif decide (x51<0) then
  ds (appS 8 ([]:List Int) x35) λx60=>
  ds (appS 32 s4.1 ([(⟨x46,x60⟩:Place)]:List Place)) λx63=>
  some ((x63:(List Place)),((s4.1.length:Int):Int))
 else
  some ((s4.1:(List Place)),(x51:Int))) λq7=>
 ds (appS 8 s4.2 ([q7.2]:List Int)) λx67=>
 some (.inr (.inr ((q7.1:(List Place)),(x67:(List Int)))))
def bM (p0:Arena) (c2_0:(List Pair)) (s1:(List Place)×Int×(List Int)×(List (List Int))×(List Int)):Option ((Parity×(List Place)×Bool)⊕(((List Place)×Int×(List Int)×(List (List Int))×(List Int))⊕((List Place)×Int×(List Int)×(List (List Int))×(List Int)))):=
 bif decide (s1.2.1<(s1.1.length:Int)) then
  ds (idx s1.1 s1.2.1) λx31=>
  ds (gx x31 c2_0) λx35=>
  ds (idx p0.Next x31.At) λx41=>
  ds (cntM (bT x35 x41) x41.length 0 ((s1.1:(List Place)),(([]:List Int):(List Int)))) λq5=>
  aft (λr=>some (.inl r)) (λs6=>
   bif decide (256<(s6.1.length:Int)) then
    some (.inl (((⟨(⟨([]:List Int),([]:List (List Int))⟩:Arena),([]:List Int)⟩:Parity):Parity),(([]:List Place):(List Place)),(false:Bool)))
   else
    ds (cm s6.2) λx74=>
    ds (idx p0.Owner x31.At) λx80=>
    ds (ga x31 c2_0) λx84=>
    ds (iN (⟨(⟨s1.2.2.1,s1.2.2.2.1⟩:Arena),s1.2.2.2.2⟩:Parity) x80 x84 x74) λx86=>
    some (.inr (.inr ((s6.1:(List Place)),((IntKind.i64.wrap (s1.2.1+1)):Int),(x86.Arena.Owner:(List Int)),(x86.Arena.Next:(List (List Int))),(x86.Prio:(List Int)))))) q5
 else
  some (.inr (.inl ((s1.1:(List Place)),(s1.2.1:Int),(s1.2.2.1:(List Int)),(s1.2.2.2.1:(List (List Int))),(s1.2.2.2.2:(List Int)))))
def cd (p0:Arena) (p1:Place) (c2_0:(List Pair)):Option (Parity×(List Place)×Bool):=
 ds (whileM (bM p0 c2_0) (2 ^ 64) ((([p1]:List Place):(List Place)),(0:Int),(([]:List Int):(List Int)),(([]:List (List Int)):(List (List Int))),(([]:List Int):(List Int)))) λq2=>
 aft (λr=>some r) (λs3=>
  some (((⟨(⟨s3.2.2.1,s3.2.2.2.1⟩:Arena),s3.2.2.2.2⟩:Parity):Parity),(s3.1:(List Place)),(true:Bool))) q2
def gZ  (v15:Int) (s1:(List Int)):Option ((Parity×(List Place)×Bool)⊕(((List Int))⊕((List Int)))):=
 ds (appS 8 s1 ([v15]:List Int)) λx22=>
 some (.inr (.inr (x22:(List Int))))
def dZ (p0:Arena) (p1:(List Pair)) (p2:Int):Option (Parity×(List Place)×Bool):=
 ds (cntM gZ p1.length 0 (([]:List Int):(List Int))) λq2=>
 aft (λr=>some r) (λs3=>
  ds (cd p0 (⟨p2,s3⟩:Place) p1) λx29=>
  some ((x29.1:Parity),(x29.2.1:(List Place)),(x29.2.2:Bool))) q2
def ji  (v4:Int) (s1:(List Int)):Option ((List Int)⊕(((List Int))⊕((List Int)))):=
 ds (appS 8 s1 ([v4]:List Int)) λx20=>
 some (.inr (.inr (x20:(List Int))))
def n0 (p0:Int):Option ((List Int)):=
 ds (bif decide (p0<0) then
 some true
 else
 some (decide (256<p0))) λp10=>
 bif p10 then
  some (([]:List Int):(List Int))
 else
  ds (rng p0) λ_=>
  ds (cntM ji (vH (p0-0)) 0 (([]:List Int):(List Int))) λq2=>
  aft (λr=>some r) (λs3=>
   some (s3:(List Int))) q2
def my (p0:Arena):Option ((List Int)):=
 ds (kG p0) λx4=>
 ds (n0 x4) λx5=>
 some (x5:(List Int))
def gA (v15:Int) (x18:(List Int)) (v22:Int) (s4:(List (List Int))):Option ((List (List Int))⊕(((List (List Int)))⊕((List (List Int))))):=
 ds (idx x18 v22) λx24=>
 ds (idx s4 x24) λx30=>
 ds (appS 8 x30 ([v15]:List Int)) λx34=>
 ds (idx s4 x24) λx35=>
 ds (setI s4 x24 (x34:(List Int))) λy393=>
 some (.inr (.inr (y393:(List (List Int)))))
def gn (p0:Arena) (v15:Int) (s1:(List (List Int))):Option ((List (List Int))⊕(((List (List Int)))⊕((List (List Int))))):=
 ds (idx p0.Next v15) λx18=>
 ds (cntM (gA v15 x18) x18.length 0 (s1:(List (List Int)))) λq5=>
 aft (λr=>some (.inl r)) (λs6=>
  some (.inr (.inr (s6:(List (List Int)))))) q5
def kb (p0:Arena):Option ((List (List Int))):=
 ds (mkS 24 (p0.Owner.length:Int) (([]:List Int):(List Int))) λx11=>
 ds (cntM (gn p0) p0.Next.length 0 (x11:(List (List Int)))) λq2=>
 aft (λr=>some r) (λs3=>
  some (s3:(List (List Int)))) q2
def iz (p1:(List Int)) (v14:Int) (s1:(List Bool)):Option ((List Bool)⊕(((List Bool))⊕((List Bool)))):=
 ds (idx p1 v14) λx16=>
 ds (idx s1 x16) λx20=>
 ds (setI s1 x16 true) λy396=>
 some (.inr (.inr (y396:(List Bool))))
def lw (p0:Arena) (p1:(List Int)):Option ((List Bool)):=
 ds (mkS 1 (p0.Owner.length:Int) (false:Bool)) λx11=>
 ds (cntM (iz p1) p1.length 0 (x11:(List Bool))) λq2=>
 aft (λr=>some r) (λs3=>
  some (s3:(List Bool))) q2
def iv (p0:(List Bool)) (v9:Int) (s1:(List Int)):Option ((List Int)⊕(((List Int))⊕((List Int)))):=
 ds (idx p0 v9) λx12=>
 ds (bif x12 then
  ds (appS 8 s1 ([v9]:List Int)) λx18=>
  some (x18:(List Int))
 else
  some (s1:(List Int))) λq4=>
 some (.inr (.inr (q4:(List Int))))
def fa (p0:(List Bool)):Option ((List Int)):=
 ds (cntM (iv p0) p0.length 0 (([]:List Int):(List Int))) λq2=>
 aft (λr=>some r) (λs3=>
  some (s3:(List Int))) q2
def jw (p0:Parity) (p1:(List Int)) (v10:Int) (s1:Int):Option (Int⊕((Int)⊕(Int))):=
 ds (idx p1 v10) λx12=>
 ds (idx p0.Prio x12) λx18=>
 some (.inr (.inr ((if s1<x18 then x18 else s1):Int)))
def mF (p0:Parity) (p1:(List Int)):Option (Int):=
 ds (cntM (jw p0 p1) p1.length 0 ((-1):Int)) λq2=>
 aft (λr=>some r) (λs3=>
  some (s3:Int)) q2
def cz (p2:(List Bool)) (x43:Int) (x79:(List Int)) (v82:Int) (s8:(List Int)):Option ((List Bool)⊕(((List Int))⊕((List Int)))):=
 ds (idx x79 v82) λx84=>
 ds (idx p2 x84) λx88=>
 ds (bif x88 then
  ds (idx s8 x43) λx92=>
  ds (idx s8 x43) λx95=>
  ds (setI s8 x43 (IntKind.i64.wrap (x92+1))) λy409=>
  some (y409:(List Int))
 else
  some (s8:(List Int))) λq11=>
 some (.inr (.inr (q11:(List Int))))
def cW (p0:solver) (p1:Int) (p2:(List Bool)) (x38:(List Int)) (v41:Int) (s4:(List Int)×(List Bool)×(List Int)):Option ((List Bool)⊕(((List Int)×(List Bool)×(List Int))⊕((List Int)×(List Bool)×(List Int)))):=
 ds (idx x38 v41) λx43=>
 ds (idx s4.2.1 x43) λx47=>
 ds (bif x47 then
 some true
 else
 ds (idx p2 x43) λx52=>
 some (!x52)) λp55=>
 bif p55 then
  some (.inr (.inr ((s4.1:(List Int)),(s4.2.1:(List Bool)),(s4.2.2:(List Int)))))
 else
  ds (idx p0.game.Arena.Owner x43) λx63=>
  bif (x63 !=p1) then
   ds (idx s4.2.2 x43) λx69=>
   ds (bif (x69==0) then
    ds (idx p0.game.Arena.Next x43) λx79=>
    ds (cntM (cz p2 x43 x79) x79.length 0 (s4.2.2:(List Int))) λq9=>
    aft (λr=>none) (λs10=>
     some (s10:(List Int))) q9
   else
    some (s4.2.2:(List Int))) λq7=>
   ds (idx q7 x43) λx99=>
   ds (idx q7 x43) λx102=>
   ds (setI q7 x43 (IntKind.i64.wrap (x99-1))) λy410=>
   ds (idx y410 x43) λx105=>
   bif decide (0<x105) then
    some (.inr (.inr ((s4.1:(List Int)),(s4.2.1:(List Bool)),(y410:(List Int)))))
   else
    ds (idx s4.2.1 x43) λx110=>
    ds (setI s4.2.1 x43 true) λy411=>
    ds (appS 8 s4.1 ([x43]:List Int)) λx114=>
    some (.inr (.inr ((x114:(List Int)),(y411:(List Bool)),(y410:(List Int)))))
  else
   ds (idx s4.2.1 x43) λx110=>
   ds (setI s4.2.1 x43 true) λy411=>
   ds (appS 8 s4.1 ([x43]:List Int)) λx114=>
   some (.inr (.inr ((x114:(List Int)),(y411:(List Bool)),(s4.2.2:(List Int)))))
def dH (p0:solver) (p1:Int) (p2:(List Bool)) (s1:(List Int)×(List Bool)×(List Int)):Option ((List Bool)⊕(((List Int)×(List Bool)×(List Int))⊕((List Int)×(List Bool)×(List Int)))):=
 bif decide (0<(s1.1.length:Int)) then
  ds (idx s1.1 0) λx29=>
  ds (subS s1.1 1 (s1.1.length:Int)) λx32=>
  ds (idx p0.preds x29) λx38=>
  ds (cntM (cW p0 p1 p2 x38) x38.length 0 ((x32:(List Int)),(s1.2.1:(List Bool)),(s1.2.2:(List Int)))) λq5=>
  aft (λr=>some (.inl r)) (λs6=>
   some (.inr (.inr ((s6.1:(List Int)),(s6.2.1:(List Bool)),(s6.2.2:(List Int)))))) q5
 else
  some (.inr (.inl ((s1.1:(List Int)),(s1.2.1:(List Bool)),(s1.2.2:(List Int)))))
def ej (p0:solver) (p1:Int) (p2:(List Bool)) (p3:(List Bool)):Option ((List Bool)):=
 ds (appS 1 ([]:List Bool) p3) λx19=>
 ds (mkS 8 (p2.length:Int) (0:Int)) λx22=>
 ds (fa p3) λx24=>
 ds (whileM (dH p0 p1 p2) (2 ^ 64) ((x24:(List Int)),(x19:(List Bool)),(x22:(List Int)))) λq2=>
 aft (λr=>some r) (λs3=>
  some (s3.2.1:(List Bool))) q2
def gz (p0:(List Bool)) (p1:(List Bool)) (v12:Int) (s1:(List Bool)):Option ((List Bool)⊕(((List Bool))⊕((List Bool)))):=
 ds (idx p0 v12) λx19=>
 ds (bif x19 then
 ds (idx p1 v12) λx24=>
 some (!x24)
 else
 some false) λp27=>
 ds (idx s1 v12) λx28=>
 ds (setI s1 v12 p27) λy415=>
 some (.inr (.inr (y415:(List Bool))))
def eg (p0:(List Bool)) (p1:(List Bool)):Option ((List Bool)):=
 ds (mkS 1 (p0.length:Int) (false:Bool)) λx9=>
 ds (cntM (gz p0 p1) p0.length 0 (x9:(List Bool))) λq2=>
 aft (λr=>some r) (λs3=>
  some (s3:(List Bool))) q2
def cq (p0:(List Bool)) (p1:Bool) (v8:Int) (s1:Unit):Option (Int⊕((Unit)⊕(Unit))):=
 ds (idx p0 v8) λx14=>
 bif (p1==x14) then
  some (.inl (v8:Int))
 else
  some (.inr (.inr ()))
def cR (p0:(List Bool)) (p1:Bool):Option (Int):=
 ds (cntM (cq p0 p1) p0.length 0 ()) λq2=>
 aft (λr=>some r) (λs3=>
  some ((-1):Int)) q2
def ci (p0:(List Bool)) (p1:Bool):Option (Bool):=
 ds (cR p0 p1) λx7=>
 some (decide (0<=x7):Bool)
def d9 (p0:solver) (x27:Int) (s1:(List Bool)) (v38:Int) (s4:(List Bool)):Option (((List Bool)×Int)⊕(((List Bool))⊕((List Bool)))):=
 ds (idx s1 v38) λx45=>
 ds (bif x45 then
 ds (idx p0.game.Prio v38) λx54=>
 some (x54==x27)
 else
 some false) λp58=>
 ds (idx s4 v38) λx59=>
 ds (setI s4 v38 p58) λy404=>
 some (.inr (.inr (y404:(List Bool))))
def d8 (rc:solver->(List Bool)->Option ((List Bool)×Int)) (p0:solver) (p1:(List Bool)) (x27:Int) (s1:(List Bool)):Option (((List Bool)×Int)⊕(((List Bool))⊕((List Bool)))):=
 ds (mkS 1 (p1.length:Int) (false:Bool)) λx35=>
 ds (cntM (d9 p0 x27 s1) x35.length 0 (x35:(List Bool))) λq5=>
 aft (λr=>some (.inl r)) (λs6=>
  ds (ej p0 (Int.tmod x27 2) s1 s6) λx66=>
  ds (eg s1 x66) λx67=>
  ds (rc p0 x67) λx71=>
  ds (bif (x71.2==(Int.tmod x27 2)) then
   ds (eg x67 x71.1) λx80=>
   some (x80:(List Bool))
  else
   some (x71.1:(List Bool))) λq7=>
  ds (ci q7 true) λx82=>
  bif (!x82) then
   some (.inl ((s1:(List Bool)),((Int.tmod x27 2):Int)))
  else
   ds (ej p0 (IntKind.i64.wrap (1-(Int.tmod x27 2))) s1 q7) λx92=>
   ds (eg s1 x92) λx93=>
   ds (ci x93 true) λx95=>
   bif (!x95) then
    some (.inl ((x93:(List Bool)),((Int.tmod x27 2):Int)))
   else
    some (.inr (.inr (x93:(List Bool))))) q5
def c7 (rc:solver->(List Bool)->Option ((List Bool)×Int)) (p0:solver) (p1:(List Bool)):Option ((List Bool)×Int):=
 ds (fa p1) λx17=>
 bif ((x17.length:Int)==0) then
  some ((p1:(List Bool)),(0:Int))
 else
  ds (mF p0.game x17) λx27=>
  ds (appS 1 ([]:List Bool) p1) λx32=>
  ds (whileM (d8 rc p0 p1 x27) (2 ^ 64) (x32:(List Bool))) λq2=>
  aft (λr=>some r) (λs3=>
   none) q2
def cS:Nat->solver->(List Bool)->Option ((List Bool)×Int)
 | 0=>λ_ _=>none
 | n+1=>c7 (cS n)
def lN (p0:Parity) (p1:(List Int)):Option ((List Int)×(List Int)):=
 ds (kb p0.Arena) λx13=>
 ds (lw p0.Arena p1) λx19=>
 ds (cS (2 ^ 64) (⟨p0,x13⟩:solver) x19) λx23=>
 bif (x23.2==0) then
  ds (fa x23.1) λx29=>
  ds (eg x19 x23.1) λx32=>
  ds (fa x32) λx33=>
  some ((x29:(List Int)),(x33:(List Int)))
 else
  ds (eg x19 x23.1) λx36=>
  ds (fa x36) λx37=>
  ds (fa x23.1) λx39=>
  some ((x37:(List Int)),(x39:(List Int)))
def fY (x17:(List Int)×(List Int)) (v22:Int) (s1:(List Int)):Option ((List Int)⊕(((List Int))⊕((List Int)))):=
 ds (idx x17.2 v22) λx24=>
 ds (idx s1 x24) λx28=>
 ds (setI s1 x24 1) λy429=>
 some (.inr (.inr (y429:(List Int))))
def eW (p0:Parity):Option ((List Int)):=
 ds (mkS 8 (p0.Prio.length:Int) (0:Int)) λx11=>
 ds (my p0.Arena) λx16=>
 ds (lN p0 x16) λx17=>
 ds (cntM (fY x17) x17.2.length 0 (x11:(List Int))) λq2=>
 aft (λr=>some r) (λs3=>
  some (s3:(List Int))) q2
def fb (p0:Arena) (p1:(List Pair)) (p2:Int):Option (Int):=
 ds (gK p0) λx11=>
 ds (bif (!x11) then
 some true
 else
 ds (kG p0) λx16=>
 ds (fK p1 x16) λx17=>
 some (!x17)) λp19=>
 ds (bif p19 then
 some true
 else
 ds (ir p0 p2) λx23=>
 some (!x23)) λp25=>
 bif p25 then
  some ((-1):Int)
 else
  ds (dZ p0 p1 p2) λx30=>
  bif (!x30.2.2) then
   some ((-1):Int)
  else
   ds (eW x30.1) λx37=>
   ds (idx x37 0) λx38=>
   some (x38:Int)
def gq (p0:Sig) (p1:Det):Option (Int):=
 ds (lI p0) λx8=>
 ds (bif (!x8) then
 some true
 else
 ds (lJ p0 p1) λx13=>
 some (!x13)) λp15=>
 bif p15 then
  some ((-1):Int)
 else
  ds (dX p0 p1) λx19=>
  ds (fb x19.1 x19.2 0) λx24=>
  some (x24:Int)
def fh (p0:Sig) (p1:(List Clause)):Option (Bool):=
 ds (dh p0 p1) λx10=>
 ds (bif x10.2 then
 ds (gq p0 x10.1) λx17=>
 some (x17==0)
 else
 some false) λp19=>
 some (p19:Bool)
def fd (p0:Parity) (v22:Int) (s1:Unit):Option (Bool⊕((Unit)⊕(Unit))):=
 ds (idx p0.Prio v22) λx24=>
 ds (bif decide (x24<0) then
 some true
 else
 some (decide (40<x24))) λp31=>
 bif p31 then
  some (.inl (false:Bool))
 else
  some (.inr (.inr ()))
def js (p0:Parity):Option (Bool):=
 ds (gK p0.Arena) λx7=>
 ds (bif (!x7) then
 some true
 else
 some ((p0.Prio.length:Int) !=(p0.Arena.Owner.length:Int))) λp18=>
 bif p18 then
  some (false:Bool)
 else
  ds (cntM (fd p0) p0.Prio.length 0 ()) λq2=>
  aft (λr=>some r) (λs3=>
   some (true:Bool)) q2
def jN  (v11:Int) (s1:(List Int)):Option ((List Int)⊕(((List Int))⊕((List Int)))):=
 ds (idx s1 v11) λx16=>
 ds (setI s1 v11 (-1)) λy441=>
 some (.inr (.inr (y441:(List Int))))
def kR (p0:Arena):Option ((List Int)):=
 ds (mkS 8 (p0.Owner.length:Int) (0:Int)) λx8=>
 ds (cntM jN x8.length 0 (x8:(List Int))) λq2=>
 aft (λr=>some r) (λs3=>
  some (s3:(List Int))) q2
def fv (p0:Answer) (p1:Int) (v16:Int) (s1:(List Int)):Option ((List Int)⊕(((List Int))⊕((List Int)))):=
 ds (idx p0.Won v16) λx19=>
 ds (bif (x19==p1) then
  ds (appS 8 s1 ([v16]:List Int)) λx27=>
  some (x27:(List Int))
 else
  some (s1:(List Int))) λq4=>
 some (.inr (.inr (q4:(List Int))))
def jp (p0:Answer) (p1:Int):Option ((List Int)):=
 bif decide (256<(p0.Won.length:Int)) then
  some (([]:List Int):(List Int))
 else
  ds (cntM (fv p0 p1) p0.Won.length 0 (([]:List Int):(List Int))) λq2=>
  aft (λr=>some r) (λs3=>
   some (s3:(List Int))) q2
def ew (p0:(List (List Int))) (v9:Int) (s1:(List (List Int))):Option ((List (List Int))⊕(((List (List Int)))⊕((List (List Int))))):=
 ds (idx p0 v9) λx11=>
 ds (appS 8 ([]:List Int) x11) λx16=>
 ds (appS 24 s1 ([x16]:List (List Int))) λx18=>
 some (.inr (.inr (x18:(List (List Int)))))
def jI (p0:(List (List Int))):Option ((List (List Int))):=
 ds (cntM (ew p0) p0.length 0 (([]:List (List Int)):(List (List Int)))) λq2=>
 aft (λr=>some r) (λs3=>
  some (s3:(List (List Int)))) q2
def iy (p0:Arena):Option (Arena):=
 ds (appS 8 ([]:List Int) p0.Owner) λx6=>
 ds (jI p0.Next) λx9=>
 some ((⟨x6,x9⟩:Arena):Arena)
def gi (p1:(List Int)) (v12:Int) (s1:(List (List Int))):Option (Arena⊕(((List (List Int)))⊕((List (List Int))))):=
 ds (idx p1 v12) λx15=>
 ds (bif decide (0<=x15) then
  ds (idx s1 v12) λx24=>
  ds (setI s1 v12 (([x15]:List Int):(List Int))) λy458=>
  some (y458:(List (List Int)))
 else
  some (s1:(List (List Int)))) λq4=>
 some (.inr (.inr (q4:(List (List Int)))))
def ki (p0:Arena) (p1:(List Int)):Option (Arena):=
 ds (iy p0) λx9=>
 ds (cntM (gi p1) p1.length 0 (x9.Next:(List (List Int)))) λq2=>
 aft (λr=>some r) (λs3=>
  some ((⟨x9.Owner,s3⟩:Arena):Arena)) q2
def lm (p0:Parity) (p1:(List Int)):Option (Parity):=
 ds (ki p0.Arena p1) λx8=>
 ds (appS 8 ([]:List Int) p0.Prio) λx12=>
 some ((⟨(⟨x8.Owner,x8.Next⟩:Arena),x12⟩:Parity):Parity)
def em (p0:Parity) (p2:(List Int)) (v19:Int) (x46:(List Int)) (x51:(List Int)) (v54:Int) (s4:(List Int)):Option (Answer⊕(((List Int))⊕((List Int)))):=
 ds (idx x51 v54) λx56=>
 ds (idx p2 x56) λx60=>
 ds (idx p2 v19) λx64=>
 bif (x60 !=x64) then
  some (.inr (.inr (s4:(List Int))))
 else
  ds (idx s4 v19) λx70=>
  ds (setI s4 v19 x56) λy448=>
  ds (lm p0 y448) λx74=>
  ds (lN x74 x46) λx76=>
  ds (idx p2 v19) λx81=>
  ds (bif (x81==0) then
  some ((x76.2.length:Int)==0)
  else
  some false) λp88=>
  ds (bif p88 then
  some true
  else
  ds (idx p2 v19) λx92=>
  ds (bif (x92==1) then
  some ((x76.1.length:Int)==0)
  else
  some false) λp99=>
  some p99) λp100=>
  bif p100 then
   some (.inr (.inl (y448:(List Int))))
  else
   ds (idx y448 v19) λx103=>
   ds (setI y448 v19 (-1)) λy461=>
   some (.inr (.inr (y461:(List Int))))
def fi (p0:Parity) (p2:(List Int)) (v19:Int) (s1:(List Int)):Option (Answer⊕(((List Int))⊕((List Int)))):=
 ds (idx p2 v19) λx30=>
 ds (idx p0.Arena.Owner v19) λx26=>
 ds (bif (x26 !=x30) then
 some true
 else
 ds (idx s1 v19) λx36=>
 some (decide (0<=x36))) λp39=>
 bif p39 then
  some (.inr (.inr (s1:(List Int))))
 else
  ds (idx p2 v19) λx44=>
  ds (jp (⟨p2,([]:List Int)⟩:Answer) x44) λx46=>
  ds (idx p0.Arena.Next v19) λx51=>
  ds (cntM (em p0 p2 v19 x46 x51) x51.length 0 (s1:(List Int))) λq5=>
  aft (λr=>some (.inl r)) (λs6=>
   some (.inr (.inr (s6:(List Int))))) q5
def iZ (p0:Parity) (p1:(List Int)) (p2:(List Int)):Option (Answer):=
 ds (appS 8 ([]:List Int) p1) λx16=>
 ds (cntM (fi p0 p2) x16.length 0 (x16:(List Int))) λq2=>
 aft (λr=>some r) (λs3=>
  ds (appS 8 ([]:List Int) p2) λx108=>
  some ((⟨x108,s3⟩:Answer):Answer)) q2
def j9 (p0:Parity):Option (Answer):=
 ds (js p0) λx4=>
 bif (!x4) then
  some ((⟨([]:List Int),([]:List Int)⟩:Answer):Answer)
 else
  ds (kR p0.Arena) λx10=>
  ds (eW p0) λx12=>
  ds (iZ p0 x10 x12) λx13=>
  some (x13:Answer)
def fq (p0:Int) (c0:(List Place)) (c1:Int):Option (Bool):=
 ds (idx c0 p0) λx7=>
 some ((x7.At==c1):Bool)
def bZ (p0:(List Int)) (c1_0:(List Place)) (c1_1:Int) (v8:Int) (s1:Unit):Option (Int⊕((Unit)⊕(Unit))):=
 ds (idx p0 v8) λx14=>
 ds (fq x14 c1_0 c1_1) λx16=>
 bif x16 then
  some (.inl (v8:Int))
 else
  some (.inr (.inr ()))
def bV (p0:(List Int)) (c1_0:(List Place)) (c1_1:Int):Option (Int):=
 ds (cntM (bZ p0 c1_0 c1_1) p0.length 0 ()) λq2=>
 aft (λr=>some r) (λs3=>
  some ((-1):Int)) q2
def dR (p0:Sig) (p1:Det) (p2:Parity) (p3:(List Place)) (x42:Place) (x50:Int) (x54:Place) (x60:Int) (v66:Int) (s4:(List Int)×(List Int)):Option (Rival⊕(((List Int)×(List Int))⊕((List Int)×(List Int)))):=
 ds (idx p1.Next x42.At) λx72=>
 ds (fG p0) λx76=>
 ds (idx x72 (IntKind.i64.wrap ((IntKind.i64.wrap (v66 * x76))+(Int.tmod (IntKind.i64.wrap (x54.At-(p1.Next.length:Int))) x60)))) λx80=>
 ds (idx p2.Arena.Next x50) λx86=>
 ds (bV x86 p3 x80) λx89=>
 ds (idx p2.Arena.Next x50) λx94=>
 ds (idx x94 x89) λx97=>
 ds (cn s4.1 x97) λx101=>
 ds (bif decide (x101<0) then
  ds (appS 8 s4.1 ([x97]:List Int)) λx109=>
  some ((x109:(List Int)),((s4.1.length:Int):Int))
 else
  some ((s4.1:(List Int)),(x101:Int))) λq7=>
 ds (appS 8 s4.2 ([q7.2]:List Int)) λx113=>
 some (.inr (.inr ((q7.1:(List Int)),(x113:(List Int)))))
def dy (p0:Sig) (p1:Det) (p2:Parity) (p3:(List Place)) (x24:Answer) (s1:(List Int)×Int×(List Int)×(List (List Int))):Option (Rival⊕(((List Int)×Int×(List Int)×(List (List Int)))⊕((List Int)×Int×(List Int)×(List (List Int))))):=
 bif decide (s1.2.1<(s1.1.length:Int)) then
  ds (idx s1.1 s1.2.1) λx40=>
  ds (idx p3 x40) λx42=>
  ds (idx s1.1 s1.2.1) λx48=>
  ds (idx x24.Plan x48) λx50=>
  ds (idx p3 x50) λx54=>
  ds (fG p0) λx60=>
  ds (nz x60) λ_z61=>
  ds (nn p0.Out) λ_z65=>
  ds (rng (IntKind.i64.wrap (1 * 2 ^ (min (vH p0.Out) (IntKind.bits IntKind.i64))))) λ_=>
  ds (cntM (dR p0 p1 p2 p3 x42 x50 x54 x60) (vH ((IntKind.i64.wrap (1 * 2 ^ (min (vH p0.Out) (IntKind.bits IntKind.i64))))-0)) 0 ((s1.1:(List Int)),(([]:List Int):(List Int)))) λq5=>
  aft (λr=>some (.inl r)) (λs6=>
   ds (appS 8 s1.2.2.1 ([(Int.tmod (IntKind.i64.wrap (x54.At-(p1.Next.length:Int))) x60)]:List Int)) λx119=>
   ds (appS 24 s1.2.2.2 ([s6.2]:List (List Int))) λx125=>
   some (.inr (.inr ((s6.1:(List Int)),((IntKind.i64.wrap (s1.2.1+1)):Int),(x119:(List Int)),(x125:(List (List Int))))))) q5
 else
  some (.inr (.inl ((s1.1:(List Int)),(s1.2.1:Int),(s1.2.2.1:(List Int)),(s1.2.2.2:(List (List Int))))))
def g7 (p0:Sig) (p1:Det) (p2:Parity) (p3:(List Place)):Option (Rival):=
 ds (j9 p2) λx24=>
 ds (whileM (dy p0 p1 p2 p3 x24) (2 ^ 64) ((([0]:List Int):(List Int)),(0:Int),(([]:List Int):(List Int)),(([]:List (List Int)):(List (List Int))))) λq2=>
 aft (λr=>some r) (λs3=>
  some ((⟨s3.2.2.1,s3.2.2.2⟩:Rival):Rival)) q2
def fO (p0:Sig) (p1:(List Clause)):Option (Rival×Bool):=
 ds (dh p0 p1) λx15=>
 bif (!x15.2) then
  some (((⟨([]:List Int),([]:List (List Int))⟩:Rival):Rival),(false:Bool))
 else
  ds (dX p0 x15.1) λx24=>
  ds (dZ x24.1 x24.2 0) λx30=>
  ds (bif (!x30.2.2) then
  some true
  else
  ds (eW x30.1) λx38=>
  ds (idx x38 0) λx39=>
  some (x39 !=1)) λp42=>
  bif p42 then
   some (((⟨([]:List Int),([]:List (List Int))⟩:Rival):Rival),(false:Bool))
  else
   ds (g7 p0 x15.1 x30.1 x30.2.1) λx48=>
   some ((x48:Rival),(true:Bool))
def gL (p0:Sig) (p1:(List Clause)):Option (Int):=
 ds (fh p0 p1) λx9=>
 bif x9 then
  some (0:Int)
 else
  ds (fO p0 p1) λx13=>
  bif x13.2 then
   some (1:Int)
  else
   some ((-1):Int)
def fg (p0:(List Int)) (p1:(List Int)) (v5:Int) (s1:Unit):Option (Bool⊕((Unit)⊕(Unit))):=
 ds (idx p0 v5) λx19=>
 ds (idx p1 v5) λx23=>
 bif (x19 !=x23) then
  some (.inl (false:Bool))
 else
  some (.inr (.inr ()))
def gE (p0:(List Int)) (p1:(List Int)):Option (Bool):=
 bif ((p0.length:Int) !=(p1.length:Int)) then
  some (false:Bool)
 else
  ds (cntM (fg p0 p1) p0.length 0 ()) λq2=>
  aft (λr=>some r) (λs3=>
   some (true:Bool)) q2
def iT (p0:Clause) (p1:Clause):Option (Bool):=
 bif (p0.Kind !=p1.Kind) then
  some (false:Bool)
 else
  ds (gE p0.A p1.A) λx14=>
  bif (!x14) then
   some (false:Bool)
  else
   ds (gE p0.B p1.B) λx20=>
   bif (!x20) then
    some (false:Bool)
   else
    some (true:Bool)
def ey (p0:(List Clause)) (p1:(List Clause)) (v5:Int) (s1:Unit):Option (Bool⊕((Unit)⊕(Unit))):=
 ds (idx p0 v5) λx19=>
 ds (idx p1 v5) λx23=>
 ds (iT x19 x23) λx25=>
 bif (!x25) then
  some (.inl (false:Bool))
 else
  some (.inr (.inr ()))
def iw (p0:(List Clause)) (p1:(List Clause)):Option (Bool):=
 bif ((p0.length:Int) !=(p1.length:Int)) then
  some (false:Bool)
 else
  ds (cntM (ey p0 p1) p0.length 0 ()) λq2=>
  aft (λr=>some r) (λs3=>
   some (true:Bool)) q2
def de (p0:Sig) (p1:(List Clause)):Option (Bool):=
 ds (iq p1 1048576) λx11=>
 bif decide (x11<0) then
  some (true:Bool)
 else
  ds (mu p0) λx15=>
  ds (eA p1) λx17=>
  ds (gP x15 x17) λx18=>
  ds (eA p1) λx20=>
  ds (mu p0) λx22=>
  ds (gL x22 x20) λx24=>
  bif (x24 !=x18) then
   some (false:Bool)
  else
   ds (eA p1) λx30=>
   ds (iw x20 x30) λx31=>
   bif (!x31) then
    some (false:Bool)
   else
    some (true:Bool)
end Go.Proofs.YtpcjbkgbnoocaaaGreat
