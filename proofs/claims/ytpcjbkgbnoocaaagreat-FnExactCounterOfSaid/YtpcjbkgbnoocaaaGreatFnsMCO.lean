/- The functions on data. By program. -/
import Derived.Test.YtpcjbkgbnoocaaaGreatTypesCO
import Derived.Test.YtpcjbkgbnoocaaaGreatCompCO
set_option linter.unusedVariables false
set_option linter.unusedSimpArgs false
open Option renaming bind → bw
open Int renaming toNat → t5
namespace Go.Proofs.YtpcjbkgbnoocaaaGreat
open Go Go.Wk Go.Proofs
set_option maxRecDepth 100000
set_option maxHeartbeats 1000000
def gE (p0:(List Int)) (p1:Int):Option (Int):=
 bif decide ((IntKind.i64.wrap (p1-(p0.length:Int)))<0) then
  some ((-1):Int)
 else
  some ((IntKind.i64.wrap (p1-(p0.length:Int))):Int)
def jk (p0:Clause) (p1:Int):Option (Int):=
 bw (gE p0.A p1) λx8=>
 bif decide (x8<0) then
  some ((-1):Int)
 else
  bw (gE p0.B x8) λx14=>
  bif decide (x14<0) then
   some ((-1):Int)
  else
   some (x14:Int)
def eu (p0:(List Clause)) (v5:Int) (s1:Int):Option (Int⊕((Int)⊕(Int))):=
 bw (idx p0 v5) λx20=>
 bw (jk x20 s1) λx23=>
 bif decide (x23<0) then
  some (.inl ((-1):Int))
 else
  some (.inr (.inr (x23:Int)))
def iq (p0:(List Clause)) (p1:Int):Option (Int):=
 bif decide ((IntKind.i64.wrap (p1-(p0.length:Int)))<0) then
  some ((-1):Int)
 else
  bw (cntM (eu p0) p0.length 0 ((IntKind.i64.wrap (p1-(p0.length:Int))):Int)) λq2=>
  aft (λr=>some r) (λs3=>
   some (s3:Int)) q2
def kY (p0:Sig):Option (Sig):=
 some ((⟨p0.In,p0.Out⟩:Sig):Sig)
def fw (p0:(List Int)) (v4:Int) (s1:(List Int)):Option ((List Int)⊕(((List Int))⊕((List Int)))):=
 bw (idx p0 v4) λx18=>
 bw (idx s1 v4) λx20=>
 bw (setI s1 v4 x18) λy10=>
 some (.inr (.inr (y10:(List Int))))
def gJ (p0:(List Int)):Option ((List Int)):=
 bw (mkS 8 (p0.length:Int) (0:Int)) λx7=>
 bw (cntM (fw p0) p0.length 0 (x7:(List Int))) λq2=>
 aft (λr=>some r) (λs3=>
  some (s3:(List Int))) q2
def i7 (p0:Clause):Option (Clause):=
 bw (gJ p0.A) λx9=>
 bw (gJ p0.B) λx13=>
 some ((⟨p0.Kind,x9,x13⟩:Clause):Clause)
def eg (p0:(List Clause)) (v4:Int) (s1:(List Clause)):Option ((List Clause)⊕(((List Clause))⊕((List Clause)))):=
 bw (idx p0 v4) λx18=>
 bw (i7 x18) λx20=>
 bw (idx s1 v4) λx21=>
 bw (setI s1 v4 (x20:Clause)) λy12=>
 some (.inr (.inr (y12:(List Clause))))
def dO (p0:(List Clause)):Option ((List Clause)):=
 bw (mkS 56 (p0.length:Int) ((⟨0,([]:List Int),([]:List Int)⟩:Clause):Clause)) λx7=>
 bw (cntM (eg p0) p0.length 0 (x7:(List Clause))) λq2=>
 aft (λr=>some r) (λs3=>
  some (s3:(List Clause))) q2
def ed (p0:Int) (p1:Int) (p2:Int):Option (Bool):=
 bw (bif decide (p1<=p0) then
 some (decide (p0<=p2))
 else
 some false) λp14=>
 some (p14:Bool)
def iI (p0:Sig):Option (Bool):=
 bw (ed p0.In 1 2) λx5=>
 bw (bif x5 then
 bw (ed p0.Out 1 2) λx9=>
 some x9
 else
 some false) λp10=>
 some (p10:Bool)
def d8  (s1:Int×Int):Option (Int⊕((Int×Int)⊕(Int×Int))):=
 bif decide (0<s1.1) then
  some (.inr (.inr (((IntKind.i64.wrap (s1.1-1)):Int),((IntKind.i64.wrap (s1.2 * 2)):Int))))
 else
  some (.inr (.inl ((s1.1:Int),(s1.2:Int))))
def cW (p0:Int):Option (Int):=
 bw (whileM d8 (2 ^ 64) ((p0:Int),(1:Int))) λq2=>
 aft (λr=>some r) (λs3=>
  some (s3.2:Int)) q2
def cE (p0:Sig):Option (Int):=
 bw (iI p0) λx4=>
 bif (!x4) then
  some (0:Int)
 else
  bw (cW (IntKind.i64.wrap (p0.In+p0.Out))) λx11=>
  some (x11:Int)
def gp (p0:(List Int)) (p1:Int) (v5:Int) (s1:Unit):Option (Bool⊕((Unit)⊕(Unit))):=
 bw (idx p0 v5) λx14=>
 bw (ed x14 0 (IntKind.i64.wrap (p1-1))) λx18=>
 bw (bif (!x18) then
 some true
 else
 bw (bif decide (0<v5) then
 bw (idx p0 v5) λx26=>
 bw (idx p0 (IntKind.i64.wrap (v5-1))) λx31=>
 some (decide (x26<=x31))
 else
 some false) λp34=>
 some p34) λp35=>
 bif p35 then
  some (.inl (false:Bool))
 else
  some (.inr (.inr ()))
def jW (p0:(List Int)) (p1:Int):Option (Bool):=
 bw (cntM (gp p0 p1) p0.length 0 ()) λq2=>
 aft (λr=>some r) (λs3=>
  some (true:Bool)) q2
def jC (p0:(List Int)) (p1:Int):Option (Bool):=
 bw (bif decide ((p0.length:Int)<=p1) then
 bw (jW p0 p1) λx12=>
 some x12
 else
 some false) λp13=>
 some (p13:Bool)
def lg (p0:Int):Option (Bool):=
 bw (bif (p0==2) then
 some true
 else
 some (p0==3)) λp8=>
 bw (bif p8 then
 some true
 else
 some (p0==7)) λp12=>
 some (p12:Bool)
def gR (p0:Sig) (p1:Clause):Option (Bool):=
 bw (iI p0) λx7=>
 bw (bif (!x7) then
 some true
 else
 bw (ed p1.Kind 1 7) λx12=>
 some (!x12)) λp14=>
 bif p14 then
  some (false:Bool)
 else
  bw (cE p0) λx16=>
  bw (jC p1.A x16) λx20=>
  bw (bif x20 then
  bw (jC p1.B x16) λx25=>
  some x25
  else
  some false) λp26=>
  bw (bif p26 then
  bw (lg p1.Kind) λx30=>
  bw (bif x30 then
  some true
  else
  some ((p1.B.length:Int)==0)) λp36=>
  some p36
  else
  some false) λp37=>
  some (p37:Bool)
def eI (p0:Sig) (p1:(List Clause)) (v5:Int) (s1:Unit):Option (Bool⊕((Unit)⊕(Unit))):=
 bw (idx p1 v5) λx23=>
 bw (gR p0 x23) λx25=>
 bif (!x25) then
  some (.inl (false:Bool))
 else
  some (.inr (.inr ()))
def ee (p0:Sig) (p1:(List Clause)):Option (Bool):=
 bw (iI p0) λx7=>
 bw (bif (!x7) then
 some true
 else
 some (decide (3<(p1.length:Int)))) λp13=>
 bif p13 then
  some (false:Bool)
 else
  bw (cntM (eI p0 p1) p1.length 0 ()) λq2=>
  aft (λr=>some r) (λs3=>
   some (true:Bool)) q2
def j5 (p0:Int):Option (Pair):=
 bw (bif (p0==1) then
  some (true:Bool)
 else
  some ((p0==5):Bool)) λq1=>
 bif q1 then
  some ((⟨([1]:List Int),([]:List Int)⟩:Pair):Pair)
 else
  bif (p0==2) then
   some ((⟨([2]:List Int),([]:List Int)⟩:Pair):Pair)
  else
   bif (p0==3) then
    some ((⟨([1]:List Int),([0]:List Int)⟩:Pair):Pair)
   else
    bif (p0==4) then
     some ((⟨([0,1]:List Int),([1]:List Int)⟩:Pair):Pair)
    else
     bif (p0==6) then
      some ((⟨([0]:List Int),([]:List Int)⟩:Pair):Pair)
     else
      some ((⟨([2,3]:List Int),([1,3]:List Int)⟩:Pair):Pair)
def g8 (p0:Int):Option (Int):=
 bif (p0==2) then
  some (3:Int)
 else
  bif (p0==7) then
   some (4:Int)
  else
   some (2:Int)
def iO (p0:(List Int)) (p1:Int) (v5:Int) (s1:Unit):Option (Bool⊕((Unit)⊕(Unit))):=
 bw (idx p0 v5) λx14=>
 bif (x14==p1) then
  some (.inl (true:Bool))
 else
  some (.inr (.inr ()))
def jv (p0:(List Int)) (p1:Int):Option (Bool):=
 bw (cntM (iO p0 p1) p0.length 0 ()) λq2=>
 aft (λr=>some r) (λs3=>
  some (false:Bool)) q2
def fU (p0:Bool):Option (Int):=
 bif p0 then
  some (1:Int)
 else
  some (0:Int)
def iF (p0:Int) (p1:Int):Option (Int):=
 bif decide (p1<p0) then
  some (p0:Int)
 else
  some (p1:Int)
def j6 (p0:Clause) (p1:Int) (p2:Int):Option (Int):=
 bw (jv p0.A p2) λx12=>
 bw (fU x12) λx13=>
 bw (jv p0.B p2) λx17=>
 bw (fU x17) λx18=>
 bif (p0.Kind==1) then
  bw (iF p1 (IntKind.i64.wrap (1-x13))) λx26=>
  some (x26:Int)
 else
  bif (p0.Kind==2) then
   bw (bif (p1==2) then
   some true
   else
   bw (bif (p1==1) then
   some (x18==0)
   else
   some false) λp37=>
   some p37) λp38=>
   bif p38 then
    some (2:Int)
   else
    some (x13:Int)
  else
   bif (p0.Kind==3) then
    bif (x18==1) then
     some (0:Int)
    else
     bw (iF p1 x13) λx46=>
     some (x46:Int)
   else
    bif (p0.Kind==4) then
     some (x13:Int)
    else
     bif (p0.Kind==5) then
      some ((IntKind.i64.wrap (1-x13)):Int)
     else
      bif (p0.Kind==6) then
       bw (iF p1 x13) λx58=>
       some (x58:Int)
      else
       some ((IntKind.i64.wrap ((IntKind.i64.wrap (2 * x13))+x18)):Int)
def eh (p0:Sig) (p1:Clause) (s1:Int×(List (List Int))) (s4:(List Int)×Int):Option (Det⊕(((List Int)×Int)⊕((List Int)×Int))):=
 bw (cE p0) λx29=>
 bif decide (s4.2<x29) then
  bw (j6 p1 s1.1 s4.2) λx37=>
  bw (appS 8 s4.1 ([x37]:List Int)) λx39=>
  some (.inr (.inr ((x39:(List Int)),((IntKind.i64.wrap (s4.2+1)):Int))))
 else
  some (.inr (.inl ((s4.1:(List Int)),(s4.2:Int))))
def eB (p0:Sig) (p1:Clause) (s1:Int×(List (List Int))):Option (Det⊕((Int×(List (List Int)))⊕(Int×(List (List Int))))):=
 bw (g8 p1.Kind) λx22=>
 bif decide (s1.1<x22) then
  bw (whileM (eh p0 p1 s1) (2 ^ 64) ((([]:List Int):(List Int)),(0:Int))) λq5=>
  aft (λr=>some (.inl r)) (λs6=>
   bw (appS 24 s1.2 ([s6.1]:List (List Int))) λx44=>
   some (.inr (.inr (((IntKind.i64.wrap (s1.1+1)):Int),(x44:(List (List Int))))))) q5
 else
  some (.inr (.inl ((s1.1:Int),(s1.2:(List (List Int))))))
def ij (p0:Sig) (p1:Clause):Option (Det):=
 bw (gR p0 p1) λx11=>
 bif (!x11) then
  some ((⟨([]:List (List Int)),([]:List Pair)⟩:Det):Det)
 else
  bw (j5 p1.Kind) λx16=>
  bw (whileM (eB p0 p1) (2 ^ 64) ((0:Int),(([]:List (List Int)):(List (List Int))))) λq2=>
  aft (λr=>some r) (λs3=>
   some ((⟨s3.2,([x16]:List Pair)⟩:Det):Det)) q2
def fq (p0:(List Int)) (p1:Int) (v5:Int) (s1:Unit):Option (Bool⊕((Unit)⊕(Unit))):=
 bw (idx p0 v5) λx14=>
 bw (ed x14 0 (IntKind.i64.wrap (p1-1))) λx18=>
 bif (!x18) then
  some (.inl (false:Bool))
 else
  some (.inr (.inr ()))
def iX (p0:(List Int)) (p1:Int):Option (Bool):=
 bw (cntM (fq p0 p1) p0.length 0 ()) λq2=>
 aft (λr=>some r) (λs3=>
  some (true:Bool)) q2
def lc (p0:(List Int)) (p1:Int):Option (Bool):=
 bw (ed p1 0 256) λx6=>
 bw (bif x6 then
 bw (jC p0 p1) λx10=>
 some x10
 else
 some false) λp11=>
 some (p11:Bool)
def gb (p0:(List Pair)) (p1:Int) (v5:Int) (s1:Unit):Option (Bool⊕((Unit)⊕(Unit))):=
 bw (idx p0 v5) λx22=>
 bw (lc x22.Ask p1) λx26=>
 bw (bif (!x26) then
 some true
 else
 bw (idx p0 v5) λx31=>
 bw (lc x31.Give p1) λx35=>
 some (!x35)) λp37=>
 bif p37 then
  some (.inl (false:Bool))
 else
  some (.inr (.inr ()))
def iK (p0:(List Pair)) (p1:Int):Option (Bool):=
 bw (ed p1 0 256) λx7=>
 bw (bif (!x7) then
 some true
 else
 some (decide (4<(p0.length:Int)))) λp13=>
 bif p13 then
  some (false:Bool)
 else
  bw (cntM (gb p0 p1) p0.length 0 ()) λq2=>
  aft (λr=>some r) (λs3=>
   some (true:Bool)) q2
def iQ (p0:Sig) (p1:Det) (v6:Int) (s1:Unit):Option (Bool⊕((Unit)⊕(Unit))):=
 bw (idx p1.Next v6) λx28=>
 bw (cE p0) λx32=>
 bw (bif ((x28.length:Int) !=x32) then
 some true
 else
 bw (idx p1.Next v6) λx38=>
 bw (iX x38 (p1.Next.length:Int)) λx41=>
 some (!x41)) λp43=>
 bif p43 then
  some (.inl (false:Bool))
 else
  some (.inr (.inr ()))
def iH (p0:Sig) (p1:Det):Option (Bool):=
 bw (iI p0) λx11=>
 bw (bif (!x11) then
 some true
 else
 bw (ed (p1.Next.length:Int) 1 48) λx15=>
 some (!x15)) λp17=>
 bif p17 then
  some (false:Bool)
 else
  bw (cntM (iQ p0 p1) p1.Next.length 0 ()) λq2=>
  aft (λr=>some r) (λs3=>
   bw (iK p1.Pairs (p1.Next.length:Int)) λx47=>
   some (x47:Bool)) q2
def fk (p0:(List (List Int))) (p1:Int) (p2:Int) (v7:Int) (s1:Unit):Option (Int⊕((Unit)⊕(Unit))):=
 bw (idx p0 v7) λx16=>
 bw (idx x16 0) λx18=>
 bw (bif (x18==p1) then
 bw (idx p0 v7) λx25=>
 bw (idx x25 1) λx27=>
 some (x27==p2)
 else
 some false) λp31=>
 bif p31 then
  some (.inl (v7:Int))
 else
  some (.inr (.inr ()))
def iU (p0:(List (List Int))) (p1:Int) (p2:Int):Option (Int):=
 bw (cntM (fk p0 p1 p2) p0.length 0 ()) λq2=>
 aft (λr=>some r) (λs3=>
  some ((-1):Int)) q2
def fv (p0:(List Pair)) (p1:(List (List Int))) (p2:Int) (v8:Int) (v10:Int) (s4:(List Int)×(List Int)):Option ((List Pair)⊕(((List Int)×(List Int))⊕((List Int)×(List Int)))):=
 bw (idx p0 v8) λx27=>
 bw (idx p1 v10) λx32=>
 bw (idx x32 p2) λx35=>
 bw (jv x27.Ask x35) λx37=>
 bw (bif x37 then
  bw (appS 8 s4.1 ([v10]:List Int)) λx42=>
  some (x42:(List Int))
 else
  some (s4.1:(List Int))) λq7=>
 bw (idx p0 v8) λx46=>
 bw (idx p1 v10) λx51=>
 bw (idx x51 p2) λx54=>
 bw (jv x46.Give x54) λx56=>
 bw (bif x56 then
  bw (appS 8 s4.2 ([v10]:List Int)) λx61=>
  some (x61:(List Int))
 else
  some (s4.2:(List Int))) λq8=>
 some (.inr (.inr ((q7:(List Int)),(q8:(List Int)))))
def eY (p0:(List Pair)) (p1:(List (List Int))) (p2:Int) (v8:Int) (s1:(List Pair)):Option ((List Pair)⊕(((List Pair))⊕((List Pair)))):=
 bw (cntM (fv p0 p1 p2 v8) p1.length 0 ((([]:List Int):(List Int)),(([]:List Int):(List Int)))) λq5=>
 aft (λr=>some (.inl r)) (λs6=>
  bw (appS 48 s1 ([(⟨s6.1,s6.2⟩:Pair)]:List Pair)) λx66=>
  some (.inr (.inr (x66:(List Pair))))) q5
def gD (p0:(List Pair)) (p1:(List (List Int))) (p2:Int):Option ((List Pair)):=
 bw (cntM (eY p0 p1 p2) p0.length 0 (([]:List Pair):(List Pair))) λq2=>
 aft (λr=>some r) (λs3=>
  some (s3:(List Pair))) q2
def dt (p0:Det) (p1:Det) (s1:(List (List Int))×Int×(List (List Int))) (v12:Int) (s4:(List (List Int))×(List Int)):Option ((Det×Bool)⊕(((List (List Int))×(List Int))⊕((List (List Int))×(List Int)))):=
 bw (idx s4.1 s1.2.1) λx35=>
 bw (idx x35 0) λx37=>
 bw (idx p0.Next x37) λx39=>
 bw (idx x39 v12) λx42=>
 bw (idx s4.1 s1.2.1) λx48=>
 bw (idx x48 1) λx50=>
 bw (idx p1.Next x50) λx52=>
 bw (idx x52 v12) λx55=>
 bw (iU s4.1 x42 x55) λx60=>
 bw (bif decide (x60<0) then
  bw (appS 24 s4.1 ([([x42,x55]:List Int)]:List (List Int))) λx70=>
  some ((x70:(List (List Int))),((s4.1.length:Int):Int))
 else
  some ((s4.1:(List (List Int))),(x60:Int))) λq7=>
 bw (appS 8 s4.2 ([q7.2]:List Int)) λx74=>
 some (.inr (.inr ((q7.1:(List (List Int))),(x74:(List Int)))))
def em (p0:Det) (p1:Det) (p2:Int) (s1:(List (List Int))×Int×(List (List Int))):Option ((Det×Bool)⊕(((List (List Int))×Int×(List (List Int)))⊕((List (List Int))×Int×(List (List Int))))):=
 bif decide (s1.2.1<(s1.1.length:Int)) then
  bw (rng p2) λ_=>
  bw (cntM (dt p0 p1 s1) (t5 (p2-0)) 0 ((s1.1:(List (List Int))),(([]:List Int):(List Int)))) λq5=>
  aft (λr=>some (.inl r)) (λs6=>
   bif decide (48<(s6.1.length:Int)) then
    some (.inl (((⟨([]:List (List Int)),([]:List Pair)⟩:Det):Det),(false:Bool)))
   else
    bw (appS 24 s1.2.2 ([s6.2]:List (List Int))) λx83=>
    some (.inr (.inr ((s6.1:(List (List Int))),((IntKind.i64.wrap (s1.2.1+1)):Int),(x83:(List (List Int))))))) q5
 else
  some (.inr (.inl ((s1.1:(List (List Int))),(s1.2.1:Int),(s1.2.2:(List (List Int))))))
def dP (p0:Det) (p1:Det) (p2:Int):Option (Det×Bool):=
 bw (whileM (em p0 p1 p2) (2 ^ 64) ((([([0,0]:List Int)]:List (List Int)):(List (List Int))),(0:Int),(([]:List (List Int)):(List (List Int))))) λq2=>
 aft (λr=>some r) (λs3=>
  bw (gD p0.Pairs s3.1 0) λx88=>
  bw (gD p1.Pairs s3.1 1) λx92=>
  bw (appS 48 x88 x92) λx93=>
  some (((⟨s3.2.2,x93⟩:Det):Det),(true:Bool))) q2
def iu (p0:Sig) (p1:Det) (p2:Det):Option (Det×Bool):=
 bw (iH p0 p1) λx10=>
 bw (bif (!x10) then
 some true
 else
 bw (iH p0 p2) λx15=>
 some (!x15)) λp17=>
 bw (bif p17 then
 some true
 else
 some (decide (4<(IntKind.i64.wrap ((p1.Pairs.length:Int)+(p2.Pairs.length:Int)))))) λp27=>
 bif p27 then
  some (((⟨([]:List (List Int)),([]:List Pair)⟩:Det):Det),(false:Bool))
 else
  bw (cE p0) λx32=>
  bw (dP p1 p2 x32) λx33=>
  some ((x33.1:Det),(x33.2:Bool))
def dj (p0:Sig) (p1:(List Clause)) (v7:Int) (s1:(List (List Int))×(List Pair)):Option ((Det×Bool)⊕(((List (List Int))×(List Pair))⊕((List (List Int))×(List Pair)))):=
 bw (idx p1 v7) λx32=>
 bw (ij p0 x32) λx34=>
 bw (iu p0 (⟨s1.1,s1.2⟩:Det) x34) λx35=>
 bif (!x35.2) then
  some (.inl (((⟨([]:List (List Int)),([]:List Pair)⟩:Det):Det),(false:Bool)))
 else
  some (.inr (.inr ((x35.1.Next:(List (List Int))),(x35.1.Pairs:(List Pair)))))
def dK (p0:Sig) (p1:(List Clause)):Option (Det×Bool):=
 bw (ee p0 p1) λx12=>
 bif (!x12) then
  some (((⟨([]:List (List Int)),([]:List Pair)⟩:Det):Det),(false:Bool))
 else
  bw (cE p0) λx16=>
  bw (mkS 8 x16 (0:Int)) λx17=>
  bw (cntM (dj p0 p1) p1.length 0 ((([x17]:List (List Int)):(List (List Int))),(([]:List Pair):(List Pair)))) λq2=>
  aft (λr=>some r) (λs3=>
   some (((⟨s3.1,s3.2⟩:Det):Det),(true:Bool))) q2
def eO (p0:Sig):Option (Int):=
 bw (cW p0.In) λx5=>
 some (x5:Int)
def gQ (p0:Sig) (p1:Int) (p2:Int):Option (Int):=
 bw (iI p0) λx8=>
 bw (bif (!x8) then
 some true
 else
 bw (cW p0.In) λx14=>
 bw (ed p1 0 (IntKind.i64.wrap (x14-1))) λx16=>
 some (!x16)) λp18=>
 bw (bif p18 then
 some true
 else
 bw (cW p0.Out) λx23=>
 bw (ed p2 0 (IntKind.i64.wrap (x23-1))) λx25=>
 some (!x25)) λp27=>
 bif p27 then
  some ((-1):Int)
 else
  bw (cW p0.In) λx31=>
  some ((IntKind.i64.wrap ((IntKind.i64.wrap (p2 * x31))+p1)):Int)
def da (p0:(List Int)):Option ((List Int)):=
 bw (appS 8 ([]:List Int) p0) λx5=>
 some (x5:(List Int))
def eF (p0:(List Int)) (p1:Int) (s1:Int):Option ((List Int)⊕((Int)⊕(Int))):=
 bw (bif decide (s1<(p0.length:Int)) then
 bw (idx p0 s1) λx14=>
 some (decide (x14<p1))
 else
 some false) λp18=>
 bif p18 then
  some (.inr (.inr ((IntKind.i64.wrap (s1+1)):Int)))
 else
  some (.inr (.inl (s1:Int)))
def ib (p0:(List Int)) (p1:Int):Option ((List Int)):=
 bw (whileM (eF p0 p1) (2 ^ 64) (0:Int)) λq2=>
 aft (λr=>some r) (λs3=>
  bw (bif decide (s3<(p0.length:Int)) then
  bw (idx p0 s3) λx28=>
  some (x28==p1)
  else
  some false) λp32=>
  bif p32 then
   some (p0:(List Int))
  else
   bw (subS p0 0 s3) λx36=>
   bw (da x36) λx37=>
   bw (appS 8 x37 ([p1]:List Int)) λx40=>
   bw (subS p0 s3 (p0.length:Int)) λx44=>
   bw (appS 8 x40 x44) λx45=>
   some (x45:(List Int))) q2
def eZ (p0:Sig) (p1:Det) (p2:Int) (p3:Int) (s1:(List Int)×Int):Option ((List Int)⊕(((List Int)×Int)⊕((List Int)×Int))):=
 bw (cW p0.Out) λx15=>
 bif decide (s1.2<x15) then
  bw (idx p1.Next p2) λx23=>
  bw (gQ p0 p3 s1.2) λx28=>
  bw (idx x23 x28) λx29=>
  bw (ib s1.1 x29) λx31=>
  some (.inr (.inr ((x31:(List Int)),((IntKind.i64.wrap (s1.2+1)):Int))))
 else
  some (.inr (.inl ((s1.1:(List Int)),(s1.2:Int))))
def jg (p0:Sig) (p1:Det) (p2:Int) (p3:Int):Option ((List Int)):=
 bw (whileM (eZ p0 p1 p2 p3) (2 ^ 64) ((([]:List Int):(List Int)),(0:Int))) λq2=>
 aft (λr=>some r) (λs3=>
  some (s3.1:(List Int))) q2
def dI (p1:Det) (x27:Int) (v10:Int) (v12:Int) (s4:(List Int)):Option ((Arena×(List Pair)×Bool)⊕(((List Int))⊕((List Int)))):=
 bw (appS 8 s4 ([(IntKind.i64.wrap ((IntKind.i64.wrap ((p1.Next.length:Int)+(IntKind.i64.wrap (v10 * x27))))+v12))]:List Int)) λx49=>
 some (.inr (.inr (x49:(List Int))))
def dF (p1:Det) (x27:Int) (v10:Int) (s1:(List Int)×(List (List Int))):Option ((Arena×(List Pair)×Bool)⊕(((List Int)×(List (List Int)))⊕((List Int)×(List (List Int))))):=
 bw (rng x27) λ_=>
 bw (cntM (dI p1 x27 v10) (t5 (x27-0)) 0 (([]:List Int):(List Int))) λq5=>
 aft (λr=>some (.inl r)) (λs6=>
  bw (appS 8 s1.1 ([1]:List Int)) λx53=>
  bw (appS 24 s1.2 ([s6]:List (List Int))) λx59=>
  some (.inr (.inr ((x53:(List Int)),(x59:(List (List Int))))))) q5
def dD (p0:Sig) (p1:Det) (v13:Int) (v14:Int) (s10:(List Int)×(List (List Int))):Option ((Arena×(List Pair)×Bool)⊕(((List Int)×(List (List Int)))⊕((List Int)×(List (List Int))))):=
 bw (appS 8 s10.1 ([0]:List Int)) λx74=>
 bw (jg p0 p1 v13 v14) λx82=>
 bw (appS 24 s10.2 ([x82]:List (List Int))) λx84=>
 some (.inr (.inr ((x74:(List Int)),(x84:(List (List Int))))))
def di (p0:Sig) (p1:Det) (x27:Int) (v13:Int) (s7:(List Int)×(List (List Int))):Option ((Arena×(List Pair)×Bool)⊕(((List Int)×(List (List Int)))⊕((List Int)×(List (List Int))))):=
 bw (rng x27) λ_=>
 bw (cntM (dD p0 p1 v13) (t5 (x27-0)) 0 ((s7.1:(List Int)),(s7.2:(List (List Int))))) λq11=>
 aft (λr=>some (.inl r)) (λs12=>
  some (.inr (.inr ((s12.1:(List Int)),(s12.2:(List (List Int))))))) q11
def dp (p1:Det) (v16:Int) (s13:(List Pair)):Option ((Arena×(List Pair)×Bool)⊕(((List Pair))⊕((List Pair)))):=
 bw (idx p1.Pairs v16) λx98=>
 bw (idx p1.Pairs v16) λx105=>
 bw (da x98.Ask) λx101=>
 bw (da x105.Give) λx108=>
 bw (appS 48 s13 ([(⟨x101,x108⟩:Pair)]:List Pair)) λx111=>
 some (.inr (.inr (x111:(List Pair))))
def dc (p0:Sig) (p1:Det):Option (Arena×(List Pair)×Bool):=
 bw (iH p0 p1) λx19=>
 bif (!x19) then
  some (((⟨([]:List Int),([]:List (List Int))⟩:Arena):Arena),(([]:List Pair):(List Pair)),(false:Bool))
 else
  bw (eO p0) λx27=>
  bw (cntM (dF p1 x27) p1.Next.length 0 ((([]:List Int):(List Int)),(([]:List (List Int)):(List (List Int))))) λq2=>
  aft (λr=>some r) (λs3=>
   bw (cntM (di p0 p1 x27) p1.Next.length 0 ((s3.1:(List Int)),(s3.2:(List (List Int))))) λq8=>
   aft (λr=>some r) (λs9=>
    bw (cntM (dp p1) p1.Pairs.length 0 (([]:List Pair):(List Pair))) λq14=>
    aft (λr=>some r) (λs15=>
     some (((⟨s9.1,s9.2⟩:Arena):Arena),(s15:(List Pair)),(true:Bool))) q14) q8) q2
def gv (p0:Arena) (v4:Int) (s1:Unit):Option (Bool⊕((Unit)⊕(Unit))):=
 bw (idx p0.Owner v4) λx30=>
 bw (ed x30 0 1) λx32=>
 bw (bif (!x32) then
 some true
 else
 bw (idx p0.Next v4) λx38=>
 some (decide ((x38.length:Int)<1))) λp42=>
 bw (bif p42 then
 some true
 else
 bw (idx p0.Next v4) λx47=>
 some (decide (16<(x47.length:Int)))) λp51=>
 bw (bif p51 then
 some true
 else
 bw (idx p0.Next v4) λx56=>
 bw (jC x56 (p0.Owner.length:Int)) λx59=>
 some (!x59)) λp61=>
 bif p61 then
  some (.inl (false:Bool))
 else
  some (.inr (.inr ()))
def iJ (p0:Arena):Option (Bool):=
 bw (ed (p0.Owner.length:Int) 1 256) λx9=>
 bw (bif (!x9) then
 some true
 else
 some ((p0.Next.length:Int) !=(p0.Owner.length:Int))) λp19=>
 bif p19 then
  some (false:Bool)
 else
  bw (cntM (gv p0) p0.Owner.length 0 ()) λq2=>
  aft (λr=>some r) (λs3=>
   some (true:Bool)) q2
def ic (p0:(List Int)) (p1:Int) (v5:Int) (s1:Unit):Option (Bool⊕((Unit)⊕(Unit))):=
 bw (idx p0 v5) λx14=>
 bif (x14==p1) then
  some (.inl (true:Bool))
 else
  some (.inr (.inr ()))
def iY (p0:(List Int)) (p1:Int):Option (Bool):=
 bw (cntM (ic p0 p1) p0.length 0 ()) λq2=>
 aft (λr=>some r) (λs3=>
  some (false:Bool)) q2
def dR (p0:(List Pair)) (p1:(List Int)) (p2:Int) (v9:Int) (s1:(List Int)×(List Int)):Option ((List Int)⊕(((List Int)×(List Int))⊕((List Int)×(List Int)))):=
 bw (idx p1 v9) λx21=>
 bw (idx p0 x21) λx23=>
 bw (iY x23.Give p2) λx27=>
 bw (bif x27 then
  bw (idx p1 v9) λx31=>
  bw (appS 8 s1.1 ([x31]:List Int)) λx34=>
  some ((x34:(List Int)),(s1.2:(List Int)))
 else
  bw (idx p1 v9) λx38=>
  bw (appS 8 s1.2 ([x38]:List Int)) λx41=>
  some ((s1.1:(List Int)),(x41:(List Int)))) λq4=>
 some (.inr (.inr ((q4.1:(List Int)),(q4.2:(List Int)))))
def gM (p0:(List Pair)) (p1:(List Int)) (p2:Int):Option ((List Int)):=
 bw (cntM (dR p0 p1 p2) p1.length 0 ((([]:List Int):(List Int)),(([]:List Int):(List Int)))) λq2=>
 aft (λr=>some r) (λs3=>
  bw (appS 8 s3.1 s3.2) λx44=>
  some (x44:(List Int))) q2
def dE (p0:(List Int)) (p1:(List Int)) (v5:Int) (s1:Unit):Option (Bool⊕((Unit)⊕(Unit))):=
 bw (idx p0 v5) λx19=>
 bw (idx p1 v5) λx23=>
 bif (x19 !=x23) then
  some (.inl (false:Bool))
 else
  some (.inr (.inr ()))
def fb (p0:(List Int)) (p1:(List Int)):Option (Bool):=
 bif ((p0.length:Int) !=(p1.length:Int)) then
  some (false:Bool)
 else
  bw (cntM (dE p0 p1) p0.length 0 ()) λq2=>
  aft (λr=>some r) (λs3=>
   some (true:Bool)) q2
def gx (p0:(List Place)) (p1:Int) (p2:(List Int)) (v7:Int) (s1:Unit):Option (Int⊕((Unit)⊕(Unit))):=
 bw (idx p0 v7) λx16=>
 bw (bif (x16.At==p1) then
 bw (idx p0 v7) λx24=>
 bw (fb x24.Record p2) λx28=>
 some x28
 else
 some false) λp29=>
 bif p29 then
  some (.inl (v7:Int))
 else
  some (.inr (.inr ()))
def jJ (p0:(List Place)) (p1:Int) (p2:(List Int)):Option (Int):=
 bw (cntM (gx p0 p1 p2) p0.length 0 ()) λq2=>
 aft (λr=>some r) (λs3=>
  some ((-1):Int)) q2
def ey (p0:(List Int)) (v4:Int) (s1:(List Int)) (s4:Int):Option ((List Int)⊕((Int)⊕(Int))):=
 bw (bif decide (0<s4) then
 bw (idx s1 (IntKind.i64.wrap (s4-1))) λx22=>
 bw (idx p0 v4) λx26=>
 some (decide (x26<x22))
 else
 some false) λp29=>
 bif p29 then
  some (.inr (.inr ((IntKind.i64.wrap (s4-1)):Int)))
 else
  some (.inr (.inl (s4:Int)))
def eK (p0:(List Int)) (v4:Int) (s1:(List Int)):Option ((List Int)⊕(((List Int))⊕((List Int)))):=
 bw (whileM (ey p0 v4 s1) (2 ^ 64) ((s1.length:Int):Int)) λq5=>
 aft (λr=>some (.inl r)) (λs6=>
  bw (subS s1 0 s6) λx35=>
  bw (appS 8 ([]:List Int) x35) λx36=>
  bw (idx p0 v4) λx40=>
  bw (appS 8 x36 ([x40]:List Int)) λx43=>
  bw (subS s1 s6 (s1.length:Int)) λx47=>
  bw (appS 8 x43 x47) λx48=>
  some (.inr (.inr (x48:(List Int))))) q5
def ia (p0:(List Int)):Option ((List Int)):=
 bw (cntM (eK p0) p0.length 0 (([]:List Int):(List Int))) λq2=>
 aft (λr=>some r) (λs3=>
  some (s3:(List Int))) q2
def dT (p0:(List Pair)) (p1:(List Int)) (p2:Int) (v9:Int) (s1:Int×Int):Option (Int⊕((Int×Int)⊕(Int×Int))):=
 bw (idx p1 v9) λx19=>
 bw (idx p0 x19) λx21=>
 bw (iY x21.Ask p2) λx25=>
 bw (bif x25 then
  some (v9:Int)
 else
  some (s1.1:Int)) λq4=>
 bw (idx p1 v9) λx30=>
 bw (idx p0 x30) λx32=>
 bw (iY x32.Give p2) λx36=>
 bw (bif x36 then
  some (v9:Int)
 else
  some (s1.2:Int)) λq5=>
 some (.inr (.inr ((q4:Int),(q5:Int))))
def gP (p0:(List Pair)) (p1:(List Int)) (p2:Int):Option (Int):=
 bw (cntM (dT p0 p1 p2) p1.length 0 (((-1):Int),((-1):Int))) λq2=>
 aft (λr=>some r) (λs3=>
  bw (bif decide (s3.1<0) then
  some (decide (s3.2<0))
  else
  some false) λp44=>
  bif p44 then
   some (0:Int)
  else
   bif decide (s3.2<s3.1) then
    some ((IntKind.i64.wrap ((IntKind.i64.wrap (2 * s3.1))+1)):Int)
   else
    some ((IntKind.i64.wrap ((IntKind.i64.wrap (2 * s3.2))+2)):Int)) q2
def df  (v11:Int) (s1:(List Int)):Option ((Parity×(List Place)×Bool)⊕(((List Int))⊕((List Int)))):=
 bw (appS 8 s1 ([v11]:List Int)) λx52=>
 some (.inr (.inr (x52:(List Int))))
def ea (p0:Arena) (x66:Place) (x73:(List Int)) (s7:(List Place)×(List Int)×Int):Option ((Parity×(List Place)×Bool)⊕(((List Place)×(List Int)×Int)⊕((List Place)×(List Int)×Int))):=
 bw (idx p0.Next x66.At) λx80=>
 bif decide (s7.2.2<(x80.length:Int)) then
  bw (idx p0.Next x66.At) λx90=>
  bw (idx x90 s7.2.2) λx93=>
  bw (jJ s7.1 x93 x73) λx98=>
  bw (bif decide (x98<0) then
   bif decide (256<=(s7.1.length:Int)) then
    some (.inl (((⟨(⟨([]:List Int),([]:List (List Int))⟩:Arena),([]:List Int)⟩:Parity):Parity),(([]:List Place):(List Place)),(false:Bool)))
   else
    bw (appS 8 ([]:List Int) x73) λx111=>
    bw (appS 32 s7.1 ([(⟨x93,x111⟩:Place)]:List Place)) λx114=>
    some (.inr ((x114:(List Place)),((s7.1.length:Int):Int)))
  else
   some (.inr ((s7.1:(List Place)),(x98:Int))):Option ((Parity×(List Place)×Bool)⊕((List Place)×Int))) λq10=>
  aft (λr=>some (.inl r)) (λz10=>
   bw (appS 8 s7.2.1 ([z10.2]:List Int)) λx118=>
   some (.inr (.inr ((z10.1:(List Place)),(x118:(List Int)),((IntKind.i64.wrap (s7.2.2+1)):Int))))) q10
 else
  some (.inr (.inl ((s7.1:(List Place)),(s7.2.1:(List Int)),(s7.2.2:Int))))
def de (p0:Arena) (p1:(List Pair)) (s4:(List Place)×Int×(List Int)×(List (List Int))×(List Int)):Option ((Parity×(List Place)×Bool)⊕(((List Place)×Int×(List Int)×(List (List Int))×(List Int))⊕((List Place)×Int×(List Int)×(List (List Int))×(List Int)))):=
 bif decide (s4.2.1<(s4.1.length:Int)) then
  bw (idx s4.1 s4.2.1) λx66=>
  bw (gM p1 x66.Record x66.At) λx73=>
  bw (whileM (ea p0 x66 x73) (2 ^ 64) ((s4.1:(List Place)),(([]:List Int):(List Int)),(0:Int))) λq8=>
  aft (λr=>some (.inl r)) (λs9=>
   bw (idx p0.Owner x66.At) λx126=>
   bw (appS 8 s4.2.2.1 ([x126]:List Int)) λx129=>
   bw (ia s9.2.1) λx136=>
   bw (appS 24 s4.2.2.2.1 ([x136]:List (List Int))) λx138=>
   bw (gP p1 x66.Record x66.At) λx148=>
   bw (appS 8 s4.2.2.2.2 ([x148]:List Int)) λx150=>
   some (.inr (.inr ((s9.1:(List Place)),((IntKind.i64.wrap (s4.2.1+1)):Int),(x129:(List Int)),(x138:(List (List Int))),(x150:(List Int)))))) q8
 else
  some (.inr (.inl ((s4.1:(List Place)),(s4.2.1:Int),(s4.2.2.1:(List Int)),(s4.2.2.2.1:(List (List Int))),(s4.2.2.2.2:(List Int)))))
def dg (p0:Arena) (p1:(List Pair)) (p2:Int):Option (Parity×(List Place)×Bool):=
 bw (iJ p0) λx25=>
 bw (bif (!x25) then
 some true
 else
 bw (iK p1 (p0.Owner.length:Int)) λx30=>
 some (!x30)) λp32=>
 bw (bif p32 then
 some true
 else
 bw (ed p2 0 (IntKind.i64.wrap ((p0.Owner.length:Int)-1))) λx37=>
 some (!x37)) λp39=>
 bif p39 then
  some (((⟨(⟨([]:List Int),([]:List (List Int))⟩:Arena),([]:List Int)⟩:Parity):Parity),(([]:List Place):(List Place)),(false:Bool))
 else
  bw (cntM df p1.length 0 (([]:List Int):(List Int))) λq2=>
  aft (λr=>some r) (λs3=>
   bw (whileM (de p0 p1) (2 ^ 64) ((([(⟨p2,s3⟩:Place)]:List Place):(List Place)),(0:Int),(([]:List Int):(List Int)),(([]:List (List Int)):(List (List Int))),(([]:List Int):(List Int)))) λq5=>
   aft (λr=>some r) (λs6=>
    some (((⟨(⟨s6.2.2.1,s6.2.2.2.1⟩:Arena),s6.2.2.2.2⟩:Parity):Parity),(s6.1:(List Place)),(true:Bool))) q5) q2
def fl (p0:Parity) (v3:Int) (s1:Unit):Option (Bool⊕((Unit)⊕(Unit))):=
 bw (idx p0.Prio v3) λx28=>
 bw (ed x28 0 40) λx30=>
 bif (!x30) then
  some (.inl (false:Bool))
 else
  some (.inr (.inr ()))
def gG (p0:Parity):Option (Bool):=
 bw (iJ p0.Arena) λx6=>
 bw (bif (!x6) then
 some true
 else
 some ((p0.Prio.length:Int) !=(p0.Arena.Owner.length:Int))) λp17=>
 bif p17 then
  some (false:Bool)
 else
  bw (cntM (fl p0) p0.Prio.length 0 ()) λq2=>
  aft (λr=>some r) (λs3=>
   some (true:Bool)) q2
def g7  (v4:Int) (s1:(List Int)):Option ((List Int)⊕(((List Int))⊕((List Int)))):=
 bw (appS 8 s1 ([(-1)]:List Int)) λx13=>
 some (.inr (.inr (x13:(List Int))))
def kC (p0:Int):Option ((List Int)):=
 bw (rng p0) λ_=>
 bw (cntM g7 (t5 (p0-0)) 0 (([]:List Int):(List Int))) λq2=>
 aft (λr=>some r) (λs3=>
  some (s3:(List Int))) q2
def kp (p0:(List Int)) (p1:Int) (v5:Int) (s1:Unit):Option (Bool⊕((Unit)⊕(Unit))):=
 bw (idx p0 v5) λx14=>
 bif (x14==p1) then
  some (.inl (true:Bool))
 else
  some (.inr (.inr ()))
def mC (p0:(List Int)) (p1:Int):Option (Bool):=
 bw (cntM (kp p0 p1) p0.length 0 ()) λq2=>
 aft (λr=>some r) (λs3=>
  some (false:Bool)) q2
def fZ (p0:Parity) (p1:(List Int)) (v5:Int) (s1:Unit):Option (Bool⊕((Unit)⊕(Unit))):=
 bw (idx p1 v5) λx20=>
 bw (bif (x20 !=(-1)) then
 bw (idx p1 v5) λx32=>
 bw (idx p0.Arena.Next v5) λx28=>
 bw (mC x28 x32) λx34=>
 some (!x34)
 else
 some false) λp36=>
 bif p36 then
  some (.inl (false:Bool))
 else
  some (.inr (.inr ()))
def jI (p0:Parity) (p1:(List Int)):Option (Bool):=
 bif ((p1.length:Int) !=(p0.Prio.length:Int)) then
  some (false:Bool)
 else
  bw (cntM (fZ p0 p1) p1.length 0 ()) λq2=>
  aft (λr=>some r) (λs3=>
   some (true:Bool)) q2
def ig (p0:Parity) (p1:(List Int)) (v7:Int) (s1:(List (List Int))):Option ((Parity×Bool)⊕(((List (List Int)))⊕((List (List Int))))):=
 bw (idx p0.Arena.Next v7) λx38=>
 bw (da x38) λx40=>
 bw (idx p1 v7) λx43=>
 bw (bif decide (0<=x43) then
  bw (idx p1 v7) λx48=>
  some (([x48]:List Int):(List Int))
 else
  some (x40:(List Int))) λq4=>
 bw (appS 24 s1 ([q4]:List (List Int))) λx56=>
 some (.inr (.inr (x56:(List (List Int)))))
def kM (p0:Parity) (p1:(List Int)):Option (Parity×Bool):=
 bw (gG p0) λx10=>
 bw (bif (!x10) then
 some true
 else
 bw (jI p0 p1) λx15=>
 some (!x15)) λp17=>
 bif p17 then
  some (((⟨(⟨([]:List Int),([]:List (List Int))⟩:Arena),([]:List Int)⟩:Parity):Parity),(false:Bool))
 else
  bw (da p0.Arena.Owner) λx22=>
  bw (da p0.Prio) λx26=>
  bw (cntM (ig p0 p1) p1.length 0 (((⟨(⟨x22,([]:List (List Int))⟩:Arena),x26⟩:Parity).Arena).Next:(List (List Int)))) λq2=>
  aft (λr=>some r) (λs3=>
   some (((⟨(⟨((⟨(⟨x22,([]:List (List Int))⟩:Arena),x26⟩:Parity).Arena).Owner,s3⟩:Arena),(⟨(⟨x22,([]:List (List Int))⟩:Arena),x26⟩:Parity).Prio⟩:Parity):Parity),(true:Bool))) q2
def jS (p0:Parity) (v5:Int) (s4:Int×(List (List Int))):Option (l7Game⊕((Int×(List (List Int)))⊕(Int×(List (List Int))))):=
 bw (idx p0.Arena.Next v5) λx38=>
 bif decide (s4.1<(x38.length:Int)) then
  bw (idx p0.Arena.Next v5) λx48=>
  bw (idx x48 s4.1) λx51=>
  bw (idx s4.2 x51) λx59=>
  bw (appS 8 x59 ([v5]:List Int)) λx63=>
  bw (idx s4.2 x51) λx64=>
  bw (setI s4.2 x51 (x63:(List Int))) λy178=>
  some (.inr (.inr (((IntKind.i64.wrap (s4.1+1)):Int),(y178:(List (List Int))))))
 else
  some (.inr (.inl ((s4.1:Int),(s4.2:(List (List Int))))))
def jX (p0:Parity) (v5:Int) (s1:(List (List Int))×(List Int)):Option (l7Game⊕(((List (List Int))×(List Int))⊕((List (List Int))×(List Int)))):=
 bw (idx s1.2 v5) λx32=>
 bw (setI s1.2 v5 (-1)) λy176=>
 bw (whileM (jS p0 v5) (2 ^ 64) ((0:Int),(s1.1:(List (List Int))))) λq5=>
 aft (λr=>some (.inl r)) (λs6=>
  some (.inr (.inr ((s6.2:(List (List Int))),(y176:(List Int)))))) q5
def mH (p0:Parity):Option (l7Game):=
 bw (mkS 24 (p0.Prio.length:Int) (([]:List Int):(List Int))) λx20=>
 bw (mkS 8 (p0.Prio.length:Int) (0:Int)) λx22=>
 bw (cntM (jX p0) p0.Prio.length 0 (((⟨p0.Arena.Owner,p0.Prio,p0.Arena.Next,x20,x22⟩:l7Game).prev:(List (List Int))),((⟨p0.Arena.Owner,p0.Prio,p0.Arena.Next,x20,x22⟩:l7Game).pick:(List Int)))) λq2=>
 aft (λr=>some r) (λs3=>
  some ((⟨(⟨p0.Arena.Owner,p0.Prio,p0.Arena.Next,x20,x22⟩:l7Game).owner,(⟨p0.Arena.Owner,p0.Prio,p0.Arena.Next,x20,x22⟩:l7Game).prio,(⟨p0.Arena.Owner,p0.Prio,p0.Arena.Next,x20,x22⟩:l7Game).next,s3.1,s3.2⟩:l7Game):l7Game)) q2
def iL  (v4:Int) (s1:(List Bool)):Option ((List Bool)⊕(((List Bool))⊕((List Bool)))):=
 bw (idx s1 v4) λx14=>
 bw (setI s1 v4 true) λy181=>
 some (.inr (.inr (y181:(List Bool))))
def ml (p0:Int):Option ((List Bool)):=
 bw (mkS 1 p0 (false:Bool)) λx6=>
 bw (rng p0) λ_=>
 bw (cntM iL (t5 (p0-0)) 0 (x6:(List Bool))) λq2=>
 aft (λr=>some r) (λs3=>
  some (s3:(List Bool))) q2
def ja (p0:l7Game) (p1:(List Bool)) (v6:Int) (s1:Int):Option (Int⊕((Int)⊕(Int))):=
 bw (idx p1 v6) λx15=>
 bw (bif x15 then
  bw (idx p0.prio v6) λx21=>
  bw (iF s1 x21) λx23=>
  some (x23:Int)
 else
  some (s1:Int)) λq4=>
 some (.inr (.inr (q4:Int)))
def mu (p0:l7Game) (p1:(List Bool)):Option (Int):=
 bw (cntM (ja p0 p1) p1.length 0 ((-1):Int)) λq2=>
 aft (λr=>some r) (λs3=>
  some (s3:Int)) q2
def jV (p0:l7Game) (p1:Int) (p2:Int):Option (Bool):=
 bw (idx p0.pick p1) λx10=>
 bw (bif decide (x10<0) then
 some true
 else
 bw (idx p0.pick p1) λx17=>
 some (x17==p2)) λp21=>
 some (p21:Bool)
def fu (p0:l7Game) (p1:(List Bool)) (p2:Int) (s1:Int×Int):Option (Int⊕((Int×Int)⊕(Int×Int))):=
 bw (idx p0.next p2) λx14=>
 bif decide (s1.2<(x14.length:Int)) then
  bw (idx p0.next p2) λx23=>
  bw (idx x23 s1.2) λx26=>
  bw (idx p1 x26) λx30=>
  bw (bif x30 then
  bw (jV p0 p2 x26) λx36=>
  some x36
  else
  some false) λp37=>
  bw (bif p37 then
   some ((IntKind.i64.wrap (s1.1+1)):Int)
  else
   some (s1.1:Int)) λq4=>
  some (.inr (.inr ((q4:Int),((IntKind.i64.wrap (s1.2+1)):Int))))
 else
  some (.inr (.inl ((s1.1:Int),(s1.2:Int))))
def ji (p0:l7Game) (p1:(List Bool)) (p2:Int):Option (Int):=
 bw (whileM (fu p0 p1 p2) (2 ^ 64) ((0:Int),(0:Int))) λq2=>
 aft (λr=>some r) (λs3=>
  some (s3.1:Int)) q2
def dz (p0:l7Game) (p1:(List Bool)) (p3:(List Bool)) (v12:Int) (s1:(List Int)×(List Bool)×(List Int)):Option ((List Bool)⊕(((List Int)×(List Bool)×(List Int))⊕((List Int)×(List Bool)×(List Int)))):=
 bw (idx p1 v12) λx32=>
 bw (bif x32 then
  bw (ji p0 p1 v12) λx39=>
  bw (idx s1.2.2 v12) λx40=>
  bw (setI s1.2.2 v12 x39) λy194=>
  some (y194:(List Int))
 else
  some (s1.2.2:(List Int))) λq4=>
 bw (idx p1 v12) λx43=>
 bw (bif x43 then
 bw (idx p3 v12) λx48=>
 some x48
 else
 some false) λp50=>
 bw (bif p50 then
  bw (idx s1.2.1 v12) λx53=>
  bw (setI s1.2.1 v12 true) λy195=>
  bw (appS 8 s1.1 ([v12]:List Int)) λx57=>
  some ((x57:(List Int)),(y195:(List Bool)))
 else
  some ((s1.1:(List Int)),(s1.2.1:(List Bool)))) λq5=>
 some (.inr (.inr ((q5.1:(List Int)),(q5.2:(List Bool)),(q4:(List Int)))))
def cQ (p0:l7Game) (p1:(List Bool)) (p2:Int) (x66:Int) (s9:(List Int)×Int×(List Bool)×(List Int)):Option ((List Bool)⊕(((List Int)×Int×(List Bool)×(List Int))⊕((List Int)×Int×(List Bool)×(List Int)))):=
 bw (idx p0.prev x66) λx72=>
 bif decide (s9.2.1<(x72.length:Int)) then
  bw (idx p0.prev x66) λx81=>
  bw (idx x81 s9.2.1) λx84=>
  bw (idx p1 x84) λx88=>
  bw (bif (!x88) then
  some true
  else
  bw (idx s9.2.2.1 x84) λx94=>
  some x94) λp96=>
  bw (bif p96 then
  some true
  else
  bw (jV p0 x84 x66) λx101=>
  some (!x101)) λp103=>
  bif p103 then
   some (.inr (.inr ((s9.1:(List Int)),((IntKind.i64.wrap (s9.2.1+1)):Int),(s9.2.2.1:(List Bool)),(s9.2.2.2:(List Int)))))
  else
   bw (idx s9.2.2.2 x84) λx106=>
   bw (idx s9.2.2.2 x84) λx109=>
   bw (setI s9.2.2.2 x84 (IntKind.i64.wrap (x106-1))) λy198=>
   bw (idx p0.owner x84) λx113=>
   bw (bif (x113==p2) then
   some true
   else
   bw (idx y198 x84) λx120=>
   some (x120==0)) λp123=>
   bw (bif p123 then
    bw (idx s9.2.2.1 x84) λx126=>
    bw (setI s9.2.2.1 x84 true) λy199=>
    bw (appS 8 s9.1 ([x84]:List Int)) λx130=>
    some ((x130:(List Int)),(y199:(List Bool)))
   else
    some ((s9.1:(List Int)),(s9.2.2.1:(List Bool)))) λq12=>
   some (.inr (.inr ((q12.1:(List Int)),((IntKind.i64.wrap (s9.2.1+1)):Int),(q12.2:(List Bool)),(y198:(List Int)))))
 else
  some (.inr (.inl ((s9.1:(List Int)),(s9.2.1:Int),(s9.2.2.1:(List Bool)),(s9.2.2.2:(List Int)))))
def ef (p0:l7Game) (p1:(List Bool)) (p2:Int) (s6:(List Int)×Int×(List Bool)×(List Int)):Option ((List Bool)⊕(((List Int)×Int×(List Bool)×(List Int))⊕((List Int)×Int×(List Bool)×(List Int)))):=
 bif decide (s6.2.1<(s6.1.length:Int)) then
  bw (idx s6.1 s6.2.1) λx66=>
  bw (whileM (cQ p0 p1 p2 x66) (2 ^ 64) ((s6.1:(List Int)),(0:Int),(s6.2.2.1:(List Bool)),(s6.2.2.2:(List Int)))) λq10=>
  aft (λr=>some (.inl r)) (λs11=>
   some (.inr (.inr ((s11.1:(List Int)),((IntKind.i64.wrap (s6.2.1+1)):Int),(s11.2.2.1:(List Bool)),(s11.2.2.2:(List Int)))))) q10
 else
  some (.inr (.inl ((s6.1:(List Int)),(s6.2.1:Int),(s6.2.2.1:(List Bool)),(s6.2.2.2:(List Int)))))
def fL (p0:l7Game) (p1:(List Bool)) (p2:Int) (p3:(List Bool)):Option ((List Bool)):=
 bw (mkS 1 (p1.length:Int) (false:Bool)) λx19=>
 bw (mkS 8 (p1.length:Int) (0:Int)) λx22=>
 bw (cntM (dz p0 p1 p3) p1.length 0 ((([]:List Int):(List Int)),(x19:(List Bool)),(x22:(List Int)))) λq2=>
 aft (λr=>some r) (λs3=>
  bw (whileM (ef p0 p1 p2) (2 ^ 64) ((s3.1:(List Int)),(0:Int),(s3.2.1:(List Bool)),(s3.2.2:(List Int)))) λq7=>
  aft (λr=>some r) (λs8=>
   some (s8.2.2.1:(List Bool))) q7) q2
def g9 (p0:(List Bool)) (p1:(List Bool)) (v6:Int) (s1:(List Bool)):Option ((List Bool)⊕(((List Bool))⊕((List Bool)))):=
 bw (idx p0 v6) λx20=>
 bw (bif x20 then
 bw (idx p1 v6) λx25=>
 some (!x25)
 else
 some false) λp28=>
 bw (idx s1 v6) λx29=>
 bw (setI s1 v6 p28) λy203=>
 some (.inr (.inr (y203:(List Bool))))
def jM (p0:(List Bool)) (p1:(List Bool)):Option ((List Bool)):=
 bw (mkS 1 (p0.length:Int) (false:Bool)) λx9=>
 bw (cntM (g9 p0 p1) p0.length 0 (x9:(List Bool))) λq2=>
 aft (λr=>some r) (λs3=>
  some (s3:(List Bool))) q2
def jd (p0:l7Game) (p1:(List Bool)) (x21:Int) (v9:Int) (s1:(List Bool)):Option ((List Bool)⊕(((List Bool))⊕((List Bool)))):=
 bw (idx p1 v9) λx43=>
 bw (bif x43 then
 bw (idx p0.prio v9) λx49=>
 some (x49==x21)
 else
 some false) λp53=>
 bw (idx s1 v9) λx54=>
 bw (setI s1 v9 p53) λy187=>
 some (.inr (.inr (y187:(List Bool))))
def gB (x21:Int) (x61:(List Bool)) (x64:(List Bool)) (v14:Int) (s4:Bool×(List Bool)):Option ((List Bool)⊕((Bool×(List Bool))⊕(Bool×(List Bool)))):=
 bw (idx x61 v14) λx78=>
 bw (bif x78 then
 bw (idx x64 v14) λx83=>
 some (x83 !=((Int.tmod x21 2)==0))
 else
 some false) λp88=>
 bw (idx s4.2 v14) λx89=>
 bw (setI s4.2 v14 p88) λy206=>
 bw (bif s4.1 then
 some true
 else
 bw (idx y206 v14) λx94=>
 some x94) λp96=>
 some (.inr (.inr ((p96:Bool),(y206:(List Bool)))))
def iZ (p1:(List Bool)) (x21:Int) (v15:Int) (s7:(List Bool)):Option ((List Bool)⊕(((List Bool))⊕((List Bool)))):=
 bw (idx p1 v15) λx109=>
 bw (bif x109 then
 some ((Int.tmod x21 2)==0)
 else
 some false) λp114=>
 bw (idx s7 v15) λx115=>
 bw (setI s7 v15 p114) λy207=>
 some (.inr (.inr (y207:(List Bool))))
def jm (x21:Int) (x122:(List Bool)) (x127:(List Bool)) (v18:Int) (s10:(List Bool)):Option ((List Bool)⊕(((List Bool))⊕((List Bool)))):=
 bw (idx x127 v18) λx138=>
 bw (bif x138 then
 some true
 else
 bw (idx x122 v18) λx143=>
 bw (bif x143 then
 some ((Int.tmod x21 2)==1)
 else
 some false) λp148=>
 some p148) λp149=>
 bw (idx s10 v18) λx150=>
 bw (setI s10 v18 p149) λy211=>
 some (.inr (.inr (y211:(List Bool))))
def gK (rc:l7Game->(List Bool)->Option ((List Bool))) (p0:l7Game) (p1:(List Bool)):Option ((List Bool)):=
 bw (mu p0 p1) λx21=>
 bw (mkS 1 (p1.length:Int) (false:Bool)) λx24=>
 bif decide (x21<0) then
  some (x24:(List Bool))
 else
  bw (mkS 1 (p1.length:Int) (false:Bool)) λx32=>
  bw (cntM (jd p0 p1 x21) p1.length 0 (x32:(List Bool))) λq2=>
  aft (λr=>some r) (λs3=>
   bw (fL p0 p1 (Int.tmod x21 2) s3) λx60=>
   bw (jM p1 x60) λx61=>
   bw (rc p0 x61) λx64=>
   bw (mkS 1 (p1.length:Int) (false:Bool)) λx67=>
   bw (cntM (gB x21 x61 x64) p1.length 0 ((false:Bool),(x67:(List Bool)))) λq5=>
   aft (λr=>some r) (λs6=>
    bif (!s6.1) then
     bw (cntM (iZ p1 x21) p1.length 0 (x24:(List Bool))) λq8=>
     aft (λr=>some r) (λs9=>
      some (s9:(List Bool))) q8
    else
     bw (fL p0 p1 (IntKind.i64.wrap (1-(Int.tmod x21 2))) s6.2) λx122=>
     bw (jM p1 x122) λx126=>
     bw (rc p0 x126) λx127=>
     bw (cntM (jm x21 x122 x127) p1.length 0 (x24:(List Bool))) λq11=>
     aft (λr=>some r) (λs12=>
      some (s12:(List Bool))) q11) q5) q2
def jy:Nat->l7Game->(List Bool)->Option ((List Bool))
 | 0=>λ_ _=>none
 | n+1=>gK (jy n)
def iN (x12:(List Bool)) (v5:Int) (s1:(List Int)):Option ((List Int)⊕(((List Int))⊕((List Int)))):=
 bw (idx x12 v5) λx23=>
 bw (fU x23) λx25=>
 bw (appS 8 s1 ([(IntKind.i64.wrap (1-x25))]:List Int)) λx28=>
 some (.inr (.inr (x28:(List Int))))
def fS (p0:Parity):Option ((List Int)):=
 bw (mH p0) λx7=>
 bw (ml (p0.Prio.length:Int)) λx11=>
 bw (jy (2 ^ 64) x7 x11) λx12=>
 bw (cntM (iN x12) x12.length 0 (([]:List Int):(List Int))) λq2=>
 aft (λr=>some r) (λs3=>
  some (s3:(List Int))) q2
def hU (p0:(List Int)) (p1:(List Int)) (v5:Int) (s1:Unit):Option (Bool⊕((Unit)⊕(Unit))):=
 bw (idx p0 v5) λx19=>
 bw (idx p1 v5) λx23=>
 bif (x19 !=x23) then
  some (.inl (false:Bool))
 else
  some (.inr (.inr ()))
def kG (p0:(List Int)) (p1:(List Int)):Option (Bool):=
 bif ((p0.length:Int) !=(p1.length:Int)) then
  some (false:Bool)
 else
  bw (cntM (hU p0 p1) p0.length 0 ()) λq2=>
  aft (λr=>some r) (λs3=>
   some (true:Bool)) q2
def iM (p0:Parity) (p1:(List Int)):Option (Bool):=
 bw (kM p0 p1) λx10=>
 bw (bif x10.2 then
 bw (fS x10.1) λx16=>
 bw (fS p0) λx18=>
 bw (kG x16 x18) λx19=>
 some x19
 else
 some false) λp20=>
 some (p20:Bool)
def fB (p0:(List Int)) (p1:Int) (v6:Int) (s1:(List Bool)):Option ((List Bool)⊕(((List Bool))⊕((List Bool)))):=
 bw (idx p0 v6) λx20=>
 bw (idx s1 v6) λx24=>
 bw (setI s1 v6 (x20==p1)) λy222=>
 some (.inr (.inr (y222:(List Bool))))
def eH (p0:(List Int)) (p1:Int):Option ((List Bool)):=
 bw (mkS 1 (p0.length:Int) (false:Bool)) λx9=>
 bw (cntM (fB p0 p1) p0.length 0 (x9:(List Bool))) λq2=>
 aft (λr=>some r) (λs3=>
  some (s3:(List Bool))) q2
def gf (p1:(List Bool)) (p2:Int) (x11:(List Bool)) (v8:Int) (s1:Unit):Option (Bool⊕((Unit)⊕(Unit))):=
 bw (idx p1 v8) λx20=>
 bw (bif x20 then
 bw (idx x11 v8) λx25=>
 some (x25 !=(p2==0))
 else
 some false) λp30=>
 bif p30 then
  some (.inl (false:Bool))
 else
  some (.inr (.inr ()))
def jP (p0:l7Game) (p1:(List Bool)) (p2:Int):Option (Bool):=
 bw (jy (2 ^ 64) p0 p1) λx11=>
 bw (cntM (gf p1 p2 x11) p1.length 0 ()) λq2=>
 aft (λr=>some r) (λs3=>
  some (true:Bool)) q2
def gW (p0:l7Game) (p1:(List Bool)) (p2:Int) (s1:Int×(List Int)):Option ((Int×(List Int))⊕((Int×(List Int))⊕(Int×(List Int)))):=
 bw (idx p0.next p2) λx13=>
 bif decide (s1.1<(x13.length:Int)) then
  bw (idx p0.next p2) λx22=>
  bw (idx x22 s1.1) λx25=>
  bw (idx p1 x25) λx29=>
  bif (!x29) then
   some (.inr (.inr (((IntKind.i64.wrap (s1.1+1)):Int),(s1.2:(List Int)))))
  else
   bw (idx s1.2 p2) λx36=>
   bw (setI s1.2 p2 x25) λy225=>
   bw (idx p0.owner p2) λx42=>
   bw (jP (⟨p0.owner,p0.prio,p0.next,p0.prev,y225⟩:l7Game) p1 x42) λx44=>
   bif x44 then
    some (.inl ((x25:Int),(y225:(List Int))))
   else
    some (.inr (.inr (((IntKind.i64.wrap (s1.1+1)):Int),(y225:(List Int)))))
 else
  some (.inr (.inl ((s1.1:Int),(s1.2:(List Int)))))
def kE (p0:l7Game) (p1:(List Bool)) (p2:Int):Option (Int×(List Int)):=
 bw (whileM (gW p0 p1 p2) (2 ^ 64) ((0:Int),(p0.pick:(List Int)))) λq2=>
 aft (λr=>some r) (λs3=>
  some (((-1):Int),(s3.2:(List Int)))) q2
def fh (p0:Parity) (p1:(List Int)) (x19:(List Int)) (v8:Int) (s1:(List Int)):Option ((Answer×Bool)⊕(((List Int))⊕((List Int)))):=
 bw (idx p1 v8) λx30=>
 bw (bif (x30 !=(-1)) then
 bw (idx x19 v8) λx36=>
 bw (idx p0.Arena.Owner v8) λx42=>
 some (x36 !=x42)
 else
 some false) λp45=>
 bif p45 then
  some (.inl (((⟨([]:List Int),([]:List Int)⟩:Answer):Answer),(false:Bool)))
 else
  bw (idx p1 v8) λx52=>
  bw (idx s1 v8) λx54=>
  bw (setI s1 v8 x52) λy219=>
  some (.inr (.inr (y219:(List Int))))
def ft (p0:Parity) (x19:(List Int)) (x21:l7Game) (x56:(List Bool)) (x58:(List Bool)) (v11:Int) (s4:(List Int)):Option ((Answer×Bool)⊕(((List Int))⊕((List Int)))):=
 bw (idx s4 v11) λx68=>
 bw (bif decide (0<=x68) then
 some true
 else
 bw (idx x19 v11) λx74=>
 bw (idx p0.Arena.Owner v11) λx80=>
 some (x74 !=x80)) λp83=>
 bif p83 then
  some (.inr (.inr (s4:(List Int))))
 else
  bw (idx x19 v11) λx87=>
  bw (bif (x87==1) then
   some (x58:(List Bool))
  else
   some (x56:(List Bool))) λq7=>
  bw (kE (⟨x21.owner,x21.prio,x21.next,x21.prev,s4⟩:l7Game) q7 v11) λx97=>
  bw (idx x97.2 v11) λx98=>
  bw (setI x97.2 v11 x97.1) λy228=>
  some (.inr (.inr (y228:(List Int))))
def jn (p0:Parity) (p1:(List Int)):Option (Answer×Bool):=
 bw (iM p0 p1) λx15=>
 bif (!x15) then
  some (((⟨([]:List Int),([]:List Int)⟩:Answer):Answer),(false:Bool))
 else
  bw (fS p0) λx19=>
  bw (mH p0) λx21=>
  bw (cntM (fh p0 p1 x19) p1.length 0 (x21.pick:(List Int))) λq2=>
  aft (λr=>some r) (λs3=>
   bw (eH x19 0) λx56=>
   bw (eH x19 1) λx58=>
   bw (cntM (ft p0 x19 x21 x56 x58) x19.length 0 (s3:(List Int))) λq5=>
   aft (λr=>some r) (λs6=>
    some (((⟨x19,s6⟩:Answer):Answer),(true:Bool))) q5) q2
def j4 (p0:Parity):Option (Answer):=
 bw (gG p0) λx6=>
 bif (!x6) then
  some ((⟨([]:List Int),([]:List Int)⟩:Answer):Answer)
 else
  bw (kC (p0.Prio.length:Int)) λx14=>
  bw (jn p0 x14) λx15=>
  some (x15.1:Answer)
def iE (p0:Sig):Option (Int):=
 bw (cW p0.Out) λx5=>
 some (x5:Int)
def iV (p0:(List Int)) (p1:(List Place)) (p2:Int) (v7:Int) (s1:Unit):Option (Int⊕((Unit)⊕(Unit))):=
 bw (idx p0 v7) λx17=>
 bw (idx p1 x17) λx19=>
 bif (x19.At==p2) then
  bw (idx p0 v7) λx26=>
  some (.inl (x26:Int))
 else
  some (.inr (.inr ()))
def mB (p0:(List Int)) (p1:(List Place)) (p2:Int):Option (Int):=
 bw (cntM (iV p0 p1 p2) p0.length 0 ()) λq2=>
 aft (λr=>some r) (λs3=>
  some ((-1):Int)) q2
def fX (p0:(List Int)) (p1:Int) (v5:Int) (s1:Unit):Option (Int⊕((Unit)⊕(Unit))):=
 bw (idx p0 v5) λx14=>
 bif (x14==p1) then
  some (.inl (v5:Int))
 else
  some (.inr (.inr ()))
def j0 (p0:(List Int)) (p1:Int):Option (Int):=
 bw (cntM (fX p0 p1) p0.length 0 ()) λq2=>
 aft (λr=>some r) (λs3=>
  some ((-1):Int)) q2
def dH (p0:Sig) (x29:Det×Bool) (x42:Parity×(List Place)×Bool) (x81:Place) (x90:Int) (x94:Place) (x100:Int) (s4:(List Int)×(List Int)×Int):Option ((Rival×Bool)⊕(((List Int)×(List Int)×Int)⊕((List Int)×(List Int)×Int))):=
 bw (iE p0) λx105=>
 bif decide (s4.2.2<x105) then
  bw (idx x42.1.Arena.Next x90) λx113=>
  bw (idx x29.1.Next x81.At) λx119=>
  bw (gQ p0 (Int.tmod (IntKind.i64.wrap (x94.At-(x29.1.Next.length:Int))) x100) s4.2.2) λx124=>
  bw (idx x119 x124) λx125=>
  bw (mB x113 x42.2.1 x125) λx127=>
  bw (j0 s4.1 x127) λx130=>
  bw (bif decide (x130<0) then
   bw (appS 8 s4.1 ([x127]:List Int)) λx138=>
   some ((x138:(List Int)),((s4.1.length:Int):Int))
  else
   some ((s4.1:(List Int)),(x130:Int))) λq7=>
  bw (appS 8 s4.2.1 ([q7.2]:List Int)) λx142=>
  some (.inr (.inr ((q7.1:(List Int)),(x142:(List Int)),((IntKind.i64.wrap (s4.2.2+1)):Int))))
 else
  some (.inr (.inl ((s4.1:(List Int)),(s4.2.1:(List Int)),(s4.2.2:Int))))
def cT (p0:Sig) (x29:Det×Bool) (x42:Parity×(List Place)×Bool) (x58:Answer) (s1:(List Int)×Int×(List Int)×(List (List Int))):Option ((Rival×Bool)⊕(((List Int)×Int×(List Int)×(List (List Int)))⊕((List Int)×Int×(List Int)×(List (List Int))))):=
 bif decide (s1.2.1<(s1.1.length:Int)) then
  bw (idx s1.1 s1.2.1) λx79=>
  bw (idx x42.2.1 x79) λx81=>
  bw (idx s1.1 s1.2.1) λx88=>
  bw (idx x58.Plan x88) λx90=>
  bw (idx x42.2.1 x90) λx94=>
  bw (eO p0) λx100=>
  bw (nz x100) λ_z101=>
  bw (whileM (dH p0 x29 x42 x81 x90 x94 x100) (2 ^ 64) ((s1.1:(List Int)),(([]:List Int):(List Int)),(0:Int))) λq5=>
  aft (λr=>some (.inl r)) (λs6=>
   bw (appS 8 s1.2.2.1 ([(Int.tmod (IntKind.i64.wrap (x94.At-(x29.1.Next.length:Int))) x100)]:List Int)) λx147=>
   bw (appS 24 s1.2.2.2 ([s6.2.1]:List (List Int))) λx153=>
   some (.inr (.inr ((s6.1:(List Int)),((IntKind.i64.wrap (s1.2.1+1)):Int),(x147:(List Int)),(x153:(List (List Int))))))) q5
 else
  some (.inr (.inl ((s1.1:(List Int)),(s1.2.1:Int),(s1.2.2.1:(List Int)),(s1.2.2.2:(List (List Int))))))
def ej (p0:Sig) (p1:(List Clause)):Option (Rival×Bool):=
 bw (dK p0 p1) λx29=>
 bw (dc p0 x29.1) λx35=>
 bw (dg x35.1 x35.2.1 0) λx42=>
 bw (bif (!x29.2) then
 some true
 else
 some (!x35.2.2)) λp51=>
 bw (bif p51 then
 some true
 else
 some (!x42.2.2)) λp55=>
 bif p55 then
  some (((⟨([]:List Int),([]:List (List Int))⟩:Rival):Rival),(false:Bool))
 else
  bw (j4 x42.1) λx58=>
  bw (idx x58.Won 0) λx61=>
  bif (x61==0) then
   some (((⟨([]:List Int),([]:List (List Int))⟩:Rival):Rival),(false:Bool))
  else
   bw (whileM (cT p0 x29 x42 x58) (2 ^ 64) ((([0]:List Int):(List Int)),(0:Int),(([]:List Int):(List Int)),(([]:List (List Int)):(List (List Int))))) λq2=>
   aft (λr=>some r) (λs3=>
    some (((⟨s3.2.2.1,s3.2.2.2⟩:Rival):Rival),(true:Bool))) q2
def mf (p0:Sig):Option (Bool):=
 bw (bif decide (1<=p0.In) then
 some (decide (p0.In<=2))
 else
 some false) λp10=>
 bw (bif p10 then
 some (decide (1<=p0.Out))
 else
 some false) λp15=>
 bw (bif p15 then
 some (decide (p0.Out<=2))
 else
 some false) λp20=>
 some (p20:Bool)
def dN (p0:Sig):Option (Int):=
 bw (nn (IntKind.i64.wrap (p0.In+p0.Out))) λ_z8=>
 some ((IntKind.i64.wrap (1 * 2 ^ (min (t5 (IntKind.i64.wrap (p0.In+p0.Out))) (IntKind.bits IntKind.i64)))):Int)
def jl (p0:(List Int)) (p1:Int) (v9:Int) (s1:Unit):Option (Bool⊕((Unit)⊕(Unit))):=
 bw (idx p0 v9) λx12=>
 bw (bif decide (x12<0) then
 some true
 else
 some (decide (p1<=x12))) λp20=>
 bw (bif p20 then
 some true
 else
 bw (bif decide (0<v9) then
 bw (idx p0 (IntKind.i64.wrap (v9-1))) λx29=>
 some (decide (x12<=x29))
 else
 some false) λp32=>
 some p32) λp33=>
 bif p33 then
  some (.inl (false:Bool))
 else
  some (.inr (.inr ()))
def kq (p0:(List Int)) (p1:Int):Option (Bool):=
 bw (cntM (jl p0 p1) p0.length 0 ()) λq2=>
 aft (λr=>some r) (λs3=>
  some (true:Bool)) q2
def jA (p0:Int):Option (Bool):=
 bw (bif (p0==2) then
 some true
 else
 some (p0==3)) λp8=>
 bw (bif p8 then
 some true
 else
 some (p0==7)) λp12=>
 some (p12:Bool)
def je (p0:Sig) (p1:Clause):Option (Bool):=
 bw (bif decide (p1.Kind<1) then
 some true
 else
 some (decide (7<p1.Kind))) λp12=>
 bw (bif p12 then
 some true
 else
 bw (dN p0) λx17=>
 bw (kq p1.A x17) λx18=>
 some (!x18)) λp20=>
 bw (bif p20 then
 some true
 else
 bw (dN p0) λx25=>
 bw (kq p1.B x25) λx26=>
 some (!x26)) λp28=>
 bif p28 then
  some (false:Bool)
 else
  bw (jA p1.Kind) λx31=>
  bw (bif x31 then
  some true
  else
  some ((p1.B.length:Int)==0)) λp37=>
  some (p37:Bool)
def dm (p0:Clause) (c0:Sig):Option (Bool):=
 bw (je c0 p0) λx6=>
 some ((!x6):Bool)
def bP (p0:(List Clause)) (c1_0:Sig) (v8:Int) (s1:Unit):Option (Int⊕((Unit)⊕(Unit))):=
 bw (idx p0 v8) λx14=>
 bw (dm x14 c1_0) λx16=>
 bif x16 then
  some (.inl (v8:Int))
 else
  some (.inr (.inr ()))
def bR (p0:(List Clause)) (c1_0:Sig):Option (Int):=
 bw (cntM (bP p0 c1_0) p0.length 0 ()) λq2=>
 aft (λr=>some r) (λs3=>
  some ((-1):Int)) q2
def bQ (p0:(List Clause)) (c1_0:Sig):Option (Bool):=
 bw (bR p0 c1_0) λx7=>
 some (decide (0<=x7):Bool)
def gk (p0:Sig) (p1:(List Clause)):Option (Bool):=
 bw (bif decide ((p1.length:Int)<=3) then
 bw (bQ p1 p0) λx11=>
 some (!x11)
 else
 some false) λp13=>
 some (p13:Bool)
def cr (p0:(List Int)) (p1:Int) (v8:Int) (s1:Unit):Option (Int⊕((Unit)⊕(Unit))):=
 bw (idx p0 v8) λx14=>
 bif (p1==x14) then
  some (.inl (v8:Int))
 else
  some (.inr (.inr ()))
def cj (p0:(List Int)) (p1:Int):Option (Int):=
 bw (cntM (cr p0 p1) p0.length 0 ()) λq2=>
 aft (λr=>some r) (λs3=>
  some ((-1):Int)) q2
def bN (p0:(List Int)) (p1:Int):Option (Bool):=
 bw (cj p0 p1) λx7=>
 some (decide (0<=x7):Bool)
def fx (p0:Int) (p1:Int) (p2:Bool) (p3:Bool):Option (Int):=
 bw (bif p2 then
  some (1:Int)
 else
  some (0:Int)) λq1=>
 bw (bif p3 then
  some ((true:Bool),(1:Int))
 else
  some ((false:Bool),(0:Int))) λq2=>
 bif (p0==1) then
  some ((if p1<(IntKind.i64.wrap (1-q1)) then(IntKind.i64.wrap (1-q1)) else p1):Int)
 else
  bif (p0==2) then
   bw (bif (p1==2) then
   some true
   else
   bw (bif (p1==1) then
   some (!q2.1)
   else
   some false) λp30=>
   some p30) λp31=>
   bif p31 then
    some (2:Int)
   else
    some (q1:Int)
  else
   bif (p0==3) then
    bif q2.1 then
     some (0:Int)
    else
     some ((if p1<q1 then q1 else p1):Int)
   else
    bif (p0==4) then
     some (q1:Int)
    else
     bif (p0==5) then
      some ((IntKind.i64.wrap (1-q1)):Int)
     else
      bif (p0==6) then
       some ((if p1<q1 then q1 else p1):Int)
      else
       some ((IntKind.i64.wrap ((IntKind.i64.wrap (2 * q1))+q2.2)):Int)
def du (p1:Clause) (v44:Int) (v50:Int) (s10:(List Int)):Option (Det⊕(((List Int))⊕((List Int)))):=
 bw (bN p1.A v50) λx60=>
 bw (bN p1.B v50) λx64=>
 bw (fx p1.Kind v44 x60 x64) λx65=>
 bw (appS 8 s10 ([x65]:List Int)) λx67=>
 some (.inr (.inr (x67:(List Int))))
def dv (p0:Sig) (p1:Clause) (v44:Int) (s7:(List (List Int))):Option (Det⊕(((List (List Int)))⊕((List (List Int))))):=
 bw (dN p0) λx49=>
 bw (rng x49) λ_=>
 bw (cntM (du p1 v44) (t5 (x49-0)) 0 (([]:List Int):(List Int))) λq11=>
 aft (λr=>some (.inl r)) (λs12=>
  bw (appS 24 s7 ([s12]:List (List Int))) λx73=>
  some (.inr (.inr (x73:(List (List Int)))))) q11
def g6 (p0:Sig) (p1:Clause):Option (Det):=
 bw (bif (p1.Kind==1) then
  some (true:Bool)
 else
  some ((p1.Kind==5):Bool)) λq1=>
 bw (bif q1 then
  some ((2:Int),(([1]:List Int):(List Int)),(([]:List Int):(List Int)))
 else
  bw (bif (p1.Kind==2) then
   some ((3:Int),(([2]:List Int):(List Int)),(([]:List Int):(List Int)))
  else
   bw (bif (p1.Kind==3) then
    some ((2:Int),(([1]:List Int):(List Int)),(([0]:List Int):(List Int)))
   else
    bw (bif (p1.Kind==4) then
     some ((2:Int),(([0,1]:List Int):(List Int)),(([1]:List Int):(List Int)))
    else
     bw (bif (p1.Kind==6) then
      some ((2:Int),(([0]:List Int):(List Int)),(([]:List Int):(List Int)))
     else
      some ((4:Int),(([2,3]:List Int):(List Int)),(([1,3]:List Int):(List Int)))) λq6=>
     some ((q6.1:Int),(q6.2.1:(List Int)),(q6.2.2:(List Int)))) λq5=>
    some ((q5.1:Int),(q5.2.1:(List Int)),(q5.2.2:(List Int)))) λq4=>
   some ((q4.1:Int),(q4.2.1:(List Int)),(q4.2.2:(List Int)))) λq3=>
  some ((q3.1:Int),(q3.2.1:(List Int)),(q3.2.2:(List Int)))) λq2=>
 bw (rng q2.1) λ_=>
 bw (cntM (dv p0 p1) (t5 (q2.1-0)) 0 (([]:List (List Int)):(List (List Int)))) λq8=>
 aft (λr=>some r) (λs9=>
  some ((⟨s9,([(⟨q2.2.1,q2.2.2⟩:Pair)]:List Pair)⟩:Det):Det)) q8
def cc (p0:(List (Int×Int))) (p1:(Int×Int)) (v8:Int) (s1:Unit):Option (Int⊕((Unit)⊕(Unit))):=
 bw (idx p0 v8) λx14=>
 bif ((p1.1==x14.1)&&(p1.2==x14.2)) then
  some (.inl (v8:Int))
 else
  some (.inr (.inr ()))
def cg (p0:(List (Int×Int))) (p1:(Int×Int)):Option (Int):=
 bw (cntM (cc p0 p1) p0.length 0 ()) λq2=>
 aft (λr=>some r) (λs3=>
  some ((-1):Int)) q2
def dq (p1:Det) (s1:(List (Int×Int))×Int×(List (List Int))) (x47:(List Int)) (v50:Int) (s4:(List (Int×Int))×(List Int)):Option ((Det×Bool)⊕(((List (Int×Int))×(List Int))⊕((List (Int×Int))×(List Int)))):=
 bw (idx x47 v50) λx53=>
 bw (idx s4.1 s1.2.1) λx60=>
 bw (idx p1.Next x60.2) λx63=>
 bw (idx x63 v50) λx66=>
 bw (cg s4.1 (x53,x66)) λx71=>
 bw (bif decide (x71<0) then
  bw (appS 16 s4.1 ([(x53,x66)]:List (Int×Int))) λx79=>
  some ((x79:(List (Int×Int))),((s4.1.length:Int):Int))
 else
  some ((s4.1:(List (Int×Int))),(x71:Int))) λq7=>
 bw (appS 8 s4.2 ([q7.2]:List Int)) λx83=>
 some (.inr (.inr ((q7.1:(List (Int×Int))),(x83:(List Int)))))
def eA (p0:Det) (p1:Det) (s1:(List (Int×Int))×Int×(List (List Int))):Option ((Det×Bool)⊕(((List (Int×Int))×Int×(List (List Int)))⊕((List (Int×Int))×Int×(List (List Int))))):=
 bif decide (s1.2.1<(s1.1.length:Int)) then
  bw (idx s1.1 s1.2.1) λx44=>
  bw (idx p0.Next x44.1) λx47=>
  bw (cntM (dq p1 s1 x47) x47.length 0 ((s1.1:(List (Int×Int))),(([]:List Int):(List Int)))) λq5=>
  aft (λr=>some (.inl r)) (λs6=>
   bif decide (48<(s6.1.length:Int)) then
    some (.inl (((⟨([]:List (List Int)),([]:List Pair)⟩:Det):Det),(false:Bool)))
   else
    bw (appS 24 s1.2.2 ([s6.2]:List (List Int))) λx93=>
    some (.inr (.inr ((s6.1:(List (Int×Int))),((IntKind.i64.wrap (s1.2.1+1)):Int),(x93:(List (List Int))))))) q5
 else
  some (.inr (.inl ((s1.1:(List (Int×Int))),(s1.2.1:Int),(s1.2.2:(List (List Int))))))
def eG (s3:(List (Int×Int))×Int×(List (List Int))) (v99:Int) (x109:Pair) (v114:Int) (s14:(List Int)×(List Int)):Option ((Det×Bool)⊕(((List Int)×(List Int))⊕((List Int)×(List Int)))):=
 bw (idx s3.1 v114) λx117=>
 bw (idx ([x117.1,x117.2]:List Int) v99) λx122=>
 bw (bN x109.Ask x122) λx124=>
 bw (bif x124 then
  bw (appS 8 s14.1 ([v114]:List Int)) λx129=>
  some (x129:(List Int))
 else
  some (s14.1:(List Int))) λq17=>
 bw (idx ([x117.1,x117.2]:List Int) v99) λx134=>
 bw (bN x109.Give x134) λx136=>
 bw (bif x136 then
  bw (appS 8 s14.2 ([v114]:List Int)) λx141=>
  some (x141:(List Int))
 else
  some (s14.2:(List Int))) λq18=>
 some (.inr (.inr ((q17:(List Int)),(q18:(List Int)))))
def cG (s3:(List (Int×Int))×Int×(List (List Int))) (v99:Int) (x102:Det) (v107:Int) (s11:(List Pair)):Option ((Det×Bool)⊕(((List Pair))⊕((List Pair)))):=
 bw (idx x102.Pairs v107) λx109=>
 bw (cntM (eG s3 v99 x109) s3.1.length 0 ((([]:List Int):(List Int)),(([]:List Int):(List Int)))) λq15=>
 aft (λr=>some (.inl r)) (λs16=>
  bw (appS 48 s11 ([(⟨s16.1,s16.2⟩:Pair)]:List Pair)) λx148=>
  some (.inr (.inr (x148:(List Pair))))) q15
def cq (p0:Det) (p1:Det) (s3:(List (Int×Int))×Int×(List (List Int))) (v99:Int) (s8:(List Pair)):Option ((Det×Bool)⊕(((List Pair))⊕((List Pair)))):=
 bw (idx ([p0,p1]:List Det) v99) λx102=>
 bw (cntM (cG s3 v99 x102) x102.Pairs.length 0 (s8:(List Pair))) λq12=>
 aft (λr=>some (.inl r)) (λs13=>
  some (.inr (.inr (s13:(List Pair))))) q12
def fI (p0:Det) (p1:Det):Option (Det×Bool):=
 bif decide (4<(IntKind.i64.wrap ((p0.Pairs.length:Int)+(p1.Pairs.length:Int)))) then
  some (((⟨([]:List (List Int)),([]:List Pair)⟩:Det):Det),(false:Bool))
 else
  bw (whileM (eA p0 p1) (2 ^ 64) ((([(0,0)]:List (Int×Int)):(List (Int×Int))),(0:Int),(([]:List (List Int)):(List (List Int))))) λq2=>
  aft (λr=>some r) (λs3=>
   bw (cntM (cq p0 p1 s3) ([p0,p1]:List Det).length 0 (([]:List Pair):(List Pair))) λq9=>
   aft (λr=>some r) (λs10=>
    some (((⟨s3.2.2,s10⟩:Det):Det),(true:Bool))) q9) q2
def dA (p0:Sig) (p1:(List Clause)) (v28:Int) (s1:(List (List Int))×(List Pair)):Option ((Det×Bool)⊕(((List (List Int))×(List Pair))⊕((List (List Int))×(List Pair)))):=
 bw (idx p1 v28) λx30=>
 bw (g6 p0 x30) λx36=>
 bw (fI (⟨s1.1,s1.2⟩:Det) x36) λx37=>
 bif (!x37.2) then
  some (.inl (((⟨([]:List (List Int)),([]:List Pair)⟩:Det):Det),(false:Bool)))
 else
  some (.inr (.inr ((x37.1.Next:(List (List Int))),(x37.1.Pairs:(List Pair)))))
def dQ (p0:Sig) (p1:(List Clause)):Option (Det×Bool):=
 bw (mf p0) λx12=>
 bw (bif (!x12) then
 some true
 else
 bw (gk p0 p1) λx17=>
 some (!x17)) λp19=>
 bif p19 then
  some (((⟨([]:List (List Int)),([]:List Pair)⟩:Det):Det),(false:Bool))
 else
  bw (dN p0) λx22=>
  bw (mkS 8 x22 (0:Int)) λx23=>
  bw (cntM (dA p0 p1) p1.length 0 ((([x23]:List (List Int)):(List (List Int))),(([]:List Pair):(List Pair)))) λq2=>
  aft (λr=>some r) (λs3=>
   some (((⟨s3.1,s3.2⟩:Det):Det),(true:Bool))) q2
def fH (p0:Sig):Option (Int):=
 bw (nn p0.In) λ_z5=>
 some ((IntKind.i64.wrap (1 * 2 ^ (min (t5 p0.In) (IntKind.bits IntKind.i64)))):Int)
def ci (p0:(List Int)):Option (List Int):=
 if 0<p0.length/\p0.length<4611686018427387904 then some (p0.mergeSort λx y=>decide (x<=y)) else if p0.length=0 then some p0 else none
def cA (p0:(List Int)):Option (List Int):=
 if 0<p0.length/\p0.length<4611686018427387904 then some (Go.Lib.compact p0) else none
def ka (p0:Pair):Option (Pair):=
 bw (appS 8 ([]:List Int) p0.Ask) λx6=>
 bw (appS 8 ([]:List Int) p0.Give) λx10=>
 some ((⟨x6,x10⟩:Pair):Pair)
def dk (p1:Det) (x24:Int) (v26:Int) (v31:Int) (s4:(List Int)):Option ((Arena×(List Pair))⊕(((List Int))⊕((List Int)))):=
 bw (appS 8 s4 ([(IntKind.i64.wrap ((IntKind.i64.wrap ((p1.Next.length:Int)+(IntKind.i64.wrap (v26 * x24))))+v31))]:List Int)) λx43=>
 some (.inr (.inr (x43:(List Int))))
def dC (p1:Det) (x24:Int) (v26:Int) (s1:(List Int)×(List (List Int))):Option ((Arena×(List Pair))⊕(((List Int)×(List (List Int)))⊕((List Int)×(List (List Int))))):=
 bw (rng x24) λ_=>
 bw (cntM (dk p1 x24 v26) (t5 (x24-0)) 0 (([]:List Int):(List Int))) λq5=>
 aft (λr=>some (.inl r)) (λs6=>
  bw (appS 8 s1.1 ([1]:List Int)) λx48=>
  bw (appS 24 s1.2 ([s6]:List (List Int))) λx54=>
  some (.inr (.inr ((x48:(List Int)),(x54:(List (List Int))))))) q5
def dy (p1:Det) (x24:Int) (v58:Int) (v62:Int) (v69:Int) (s13:(List Int)):Option ((Arena×(List Pair))⊕(((List Int))⊕((List Int)))):=
 bw (idx p1.Next v58) λx76=>
 bw (idx x76 (IntKind.i64.wrap ((IntKind.i64.wrap (v69 * x24))+v62))) λx83=>
 bw (appS 8 s13 ([x83]:List Int)) λx86=>
 some (.inr (.inr (x86:(List Int))))
def dB (p0:Sig) (p1:Det) (x24:Int) (v58:Int) (v62:Int) (s10:(List Int)×(List (List Int))):Option ((Arena×(List Pair))⊕(((List Int)×(List (List Int)))⊕((List Int)×(List (List Int))))):=
 bw (nn p0.Out) λ_z68=>
 bw (rng (IntKind.i64.wrap (1 * 2 ^ (min (t5 p0.Out) (IntKind.bits IntKind.i64))))) λ_=>
 bw (cntM (dy p1 x24 v58 v62) (t5 ((IntKind.i64.wrap (1 * 2 ^ (min (t5 p0.Out) (IntKind.bits IntKind.i64))))-0)) 0 (([]:List Int):(List Int))) λq14=>
 aft (λr=>some (.inl r)) (λs15=>
  bw (ci s15) λx89=>
  bw (appS 8 s10.1 ([0]:List Int)) λx93=>
  bw (cA x89) λx98=>
  bw (appS 24 s10.2 ([x98]:List (List Int))) λx100=>
  some (.inr (.inr ((x93:(List Int)),(x100:(List (List Int))))))) q14
def dx (p0:Sig) (p1:Det) (x24:Int) (v58:Int) (s7:(List Int)×(List (List Int))):Option ((Arena×(List Pair))⊕(((List Int)×(List (List Int)))⊕((List Int)×(List (List Int))))):=
 bw (rng x24) λ_=>
 bw (cntM (dB p0 p1 x24 v58) (t5 (x24-0)) 0 ((s7.1:(List Int)),(s7.2:(List (List Int))))) λq11=>
 aft (λr=>some (.inl r)) (λs12=>
  some (.inr (.inr ((s12.1:(List Int)),(s12.2:(List (List Int))))))) q11
def c8 (p1:Det) (v108:Int) (s16:(List Pair)):Option ((Arena×(List Pair))⊕(((List Pair))⊕((List Pair)))):=
 bw (idx p1.Pairs v108) λx110=>
 bw (ka x110) λx114=>
 bw (appS 48 s16 ([x114]:List Pair)) λx116=>
 some (.inr (.inr (x116:(List Pair))))
def en (p0:Sig) (p1:Det):Option (Arena×(List Pair)):=
 bw (fH p0) λx24=>
 bw (cntM (dC p1 x24) p1.Next.length 0 ((([]:List Int):(List Int)),(([]:List (List Int)):(List (List Int))))) λq2=>
 aft (λr=>some r) (λs3=>
  bw (cntM (dx p0 p1 x24) p1.Next.length 0 ((s3.1:(List Int)),(s3.2:(List (List Int))))) λq8=>
  aft (λr=>some r) (λs9=>
   bw (cntM (c8 p1) p1.Pairs.length 0 (([]:List Pair):(List Pair))) λq17=>
   aft (λr=>some r) (λs18=>
    some (((⟨s9.1,s9.2⟩:Arena):Arena),(s18:(List Pair)))) q17) q8) q2
def dZ (p0:(List Pair)) (p1:(List Int)) (p2:Int) (v15:Int) (s1:(List Int)×(List Int)):Option ((List Int)⊕(((List Int)×(List Int))⊕((List Int)×(List Int)))):=
 bw (idx p1 v15) λx17=>
 bw (idx p0 x17) λx21=>
 bw (bN x21.Give p2) λx25=>
 bw (bif x25 then
  bw (appS 8 s1.1 ([x17]:List Int)) λx29=>
  some ((x29:(List Int)),(s1.2:(List Int)))
 else
  bw (appS 8 s1.2 ([x17]:List Int)) λx33=>
  some ((s1.1:(List Int)),(x33:(List Int)))) λq4=>
 some (.inr (.inr ((q4.1:(List Int)),(q4.2:(List Int)))))
def fY (p0:(List Pair)) (p1:(List Int)) (p2:Int):Option ((List Int)):=
 bw (cntM (dZ p0 p1 p2) p1.length 0 ((([]:List Int):(List Int)),(([]:List Int):(List Int)))) λq2=>
 aft (λr=>some r) (λs3=>
  bw (appS 8 s3.1 s3.2) λx37=>
  some (x37:(List Int))) q2
def gw (p0:Place) (c0:(List Pair)):Option ((List Int)):=
 bw (fY c0 p0.Record p0.At) λx9=>
 some (x9:(List Int))
def cv (p0:(List Int)) (p1:(List Int)) (v13:Int) (s1:Unit):Option (Bool⊕((Unit)⊕(Unit))):=
 bw (idx p0 v13) λx18=>
 bw (idx p1 v13) λx22=>
 bif (x18 !=x22) then
  some (.inl (false:Bool))
 else
  some (.inr (.inr ()))
def cD (p0:(List Int)) (p1:(List Int)):Option (Bool):=
 bif ((p0.length:Int) !=(p1.length:Int)) then
  some (false:Bool)
 else
  bw (cntM (cv p0 p1) p0.length 0 ()) λq2=>
  aft (λr=>some r) (λs3=>
   some (true:Bool)) q2
def gX (p0:Place) (c0:Int) (c1:(List Int)):Option (Bool):=
 bw (bif (p0.At==c0) then
 bw (cD p0.Record c1) λx13=>
 some x13
 else
 some false) λp14=>
 some (p14:Bool)
def bU (p0:(List Place)) (c1_0:Int) (c1_1:(List Int)) (v8:Int) (s1:Unit):Option (Int⊕((Unit)⊕(Unit))):=
 bw (idx p0 v8) λx14=>
 bw (gX x14 c1_0 c1_1) λx16=>
 bif x16 then
  some (.inl (v8:Int))
 else
  some (.inr (.inr ()))
def bW (p0:(List Place)) (c1_0:Int) (c1_1:(List Int)):Option (Int):=
 bw (cntM (bU p0 c1_0 c1_1) p0.length 0 ()) λq2=>
 aft (λr=>some r) (λs3=>
  some ((-1):Int)) q2
def jZ (p0:(List Place)) (p1:Int) (p2:(List Int)):Option (Int):=
 bw (bW p0 p1 p2) λx9=>
 some (x9:Int)
def dX (p0:(List Pair)) (p1:(List Int)) (p2:Int) (v13:Int) (s1:Int×Int):Option (Int⊕((Int×Int)⊕(Int×Int))):=
 bw (idx p1 v13) λx16=>
 bw (idx p0 x16) λx20=>
 bw (bN x20.Ask p2) λx24=>
 bw (bif x24 then
  some (v13:Int)
 else
  some (s1.1:Int)) λq4=>
 bw (idx p0 x16) λx28=>
 bw (bN x28.Give p2) λx32=>
 bw (bif x32 then
  some (v13:Int)
 else
  some (s1.2:Int)) λq5=>
 some (.inr (.inr ((q4:Int),(q5:Int))))
def gi (p0:(List Pair)) (p1:(List Int)) (p2:Int):Option (Int):=
 bw (cntM (dX p0 p1 p2) p1.length 0 (((-1):Int),((-1):Int))) λq2=>
 aft (λr=>some r) (λs3=>
  bw (bif decide (s3.1<0) then
  some (decide (s3.2<0))
  else
  some false) λp41=>
  bif p41 then
   some (0:Int)
  else
   bif decide (s3.2<s3.1) then
    some ((IntKind.i64.wrap ((IntKind.i64.wrap (2 * s3.1))+1)):Int)
   else
    some ((IntKind.i64.wrap ((IntKind.i64.wrap (2 * s3.2))+2)):Int)) q2
def go (p0:Place) (c0:(List Pair)):Option (Int):=
 bw (gi c0 p0.Record p0.At) λx9=>
 some (x9:Int)
def iD (p0:Parity) (p1:Int) (p2:Int) (p3:(List Int)):Option (Parity):=
 bw (appS 8 p0.Arena.Owner ([p1]:List Int)) λx14=>
 bw (appS 24 p0.Arena.Next ([p3]:List (List Int))) λx22=>
 bw (appS 8 p0.Prio ([p2]:List Int)) λx29=>
 some ((⟨(⟨x14,x22⟩:Arena),x29⟩:Parity):Parity)
def bS (x35:(List Int)) (x41:(List Int)) (v44:Int) (s4:(List Place)×(List Int)):Option ((Parity×(List Place)×Bool)⊕(((List Place)×(List Int))⊕((List Place)×(List Int)))):=
 bw (idx x41 v44) λx46=>
 bw (jZ s4.1 x46 x35) λx51=>
 bw (bif decide (x51<0) then
  bw (appS 8 ([]:List Int) x35) λx60=>
  bw (appS 32 s4.1 ([(⟨x46,x60⟩:Place)]:List Place)) λx63=>
  some ((x63:(List Place)),((s4.1.length:Int):Int))
 else
  some ((s4.1:(List Place)),(x51:Int))) λq7=>
 bw (appS 8 s4.2 ([q7.2]:List Int)) λx67=>
 some (.inr (.inr ((q7.1:(List Place)),(x67:(List Int)))))
def bM (p0:Arena) (c2_0:(List Pair)) (s1:(List Place)×Int×(List Int)×(List (List Int))×(List Int)):Option ((Parity×(List Place)×Bool)⊕(((List Place)×Int×(List Int)×(List (List Int))×(List Int))⊕((List Place)×Int×(List Int)×(List (List Int))×(List Int)))):=
 bif decide (s1.2.1<(s1.1.length:Int)) then
  bw (idx s1.1 s1.2.1) λx31=>
  bw (gw x31 c2_0) λx35=>
  bw (idx p0.Next x31.At) λx41=>
  bw (cntM (bS x35 x41) x41.length 0 ((s1.1:(List Place)),(([]:List Int):(List Int)))) λq5=>
  aft (λr=>some (.inl r)) (λs6=>
   bif decide (256<(s6.1.length:Int)) then
    some (.inl (((⟨(⟨([]:List Int),([]:List (List Int))⟩:Arena),([]:List Int)⟩:Parity):Parity),(([]:List Place):(List Place)),(false:Bool)))
   else
    bw (ci s6.2) λx74=>
    bw (idx p0.Owner x31.At) λx80=>
    bw (go x31 c2_0) λx84=>
    bw (iD (⟨(⟨s1.2.2.1,s1.2.2.2.1⟩:Arena),s1.2.2.2.2⟩:Parity) x80 x84 x74) λx86=>
    some (.inr (.inr ((s6.1:(List Place)),((IntKind.i64.wrap (s1.2.1+1)):Int),(x86.Arena.Owner:(List Int)),(x86.Arena.Next:(List (List Int))),(x86.Prio:(List Int)))))) q5
 else
  some (.inr (.inl ((s1.1:(List Place)),(s1.2.1:Int),(s1.2.2.1:(List Int)),(s1.2.2.2.1:(List (List Int))),(s1.2.2.2.2:(List Int)))))
def ca (p0:Arena) (p1:Place) (c2_0:(List Pair)):Option (Parity×(List Place)×Bool):=
 bw (whileM (bM p0 c2_0) (2 ^ 64) ((([p1]:List Place):(List Place)),(0:Int),(([]:List Int):(List Int)),(([]:List (List Int)):(List (List Int))),(([]:List Int):(List Int)))) λq2=>
 aft (λr=>some r) (λs3=>
  some (((⟨(⟨s3.2.2.1,s3.2.2.2.1⟩:Arena),s3.2.2.2.2⟩:Parity):Parity),(s3.1:(List Place)),(true:Bool))) q2
def gU  (v15:Int) (s1:(List Int)):Option ((Parity×(List Place)×Bool)⊕(((List Int))⊕((List Int)))):=
 bw (appS 8 s1 ([v15]:List Int)) λx22=>
 some (.inr (.inr (x22:(List Int))))
def ez (p0:Arena) (p1:(List Pair)) (p2:Int):Option (Parity×(List Place)×Bool):=
 bw (cntM gU p1.length 0 (([]:List Int):(List Int))) λq2=>
 aft (λr=>some r) (λs3=>
  bw (ca p0 (⟨p2,s3⟩:Place) p1) λx29=>
  some ((x29.1:Parity),(x29.2.1:(List Place)),(x29.2.2:Bool))) q2
def qj (p0:Arena):Option (Int):=
 some ((p0.Owner.length:Int):Int)
def jq  (v4:Int) (s1:(List Int)):Option ((List Int)⊕(((List Int))⊕((List Int)))):=
 bw (appS 8 s1 ([v4]:List Int)) λx20=>
 some (.inr (.inr (x20:(List Int))))
def nF (p0:Int):Option ((List Int)):=
 bw (bif decide (p0<0) then
 some true
 else
 some (decide (256<p0))) λp10=>
 bif p10 then
  some (([]:List Int):(List Int))
 else
  bw (rng p0) λ_=>
  bw (cntM jq (t5 (p0-0)) 0 (([]:List Int):(List Int))) λq2=>
  aft (λr=>some r) (λs3=>
   some (s3:(List Int))) q2
def l9 (p0:Arena):Option ((List Int)):=
 bw (qj p0) λx4=>
 bw (nF x4) λx5=>
 some (x5:(List Int))
def gg (v15:Int) (x18:(List Int)) (v22:Int) (s4:(List (List Int))):Option ((List (List Int))⊕(((List (List Int)))⊕((List (List Int))))):=
 bw (idx x18 v22) λx24=>
 bw (idx s4 x24) λx30=>
 bw (appS 8 x30 ([v15]:List Int)) λx34=>
 bw (idx s4 x24) λx35=>
 bw (setI s4 x24 (x34:(List Int))) λy347=>
 some (.inr (.inr (y347:(List (List Int)))))
def gl (p0:Arena) (v15:Int) (s1:(List (List Int))):Option ((List (List Int))⊕(((List (List Int)))⊕((List (List Int))))):=
 bw (idx p0.Next v15) λx18=>
 bw (cntM (gg v15 x18) x18.length 0 (s1:(List (List Int)))) λq5=>
 aft (λr=>some (.inl r)) (λs6=>
  some (.inr (.inr (s6:(List (List Int)))))) q5
def jL (p0:Arena):Option ((List (List Int))):=
 bw (mkS 24 (p0.Owner.length:Int) (([]:List Int):(List Int))) λx11=>
 bw (cntM (gl p0) p0.Next.length 0 (x11:(List (List Int)))) λq2=>
 aft (λr=>some r) (λs3=>
  some (s3:(List (List Int)))) q2
def gY (p1:(List Int)) (v14:Int) (s1:(List Bool)):Option ((List Bool)⊕(((List Bool))⊕((List Bool)))):=
 bw (idx p1 v14) λx16=>
 bw (idx s1 x16) λx20=>
 bw (setI s1 x16 true) λy350=>
 some (.inr (.inr (y350:(List Bool))))
def kO (p0:Arena) (p1:(List Int)):Option ((List Bool)):=
 bw (mkS 1 (p0.Owner.length:Int) (false:Bool)) λx11=>
 bw (cntM (gY p1) p1.length 0 (x11:(List Bool))) λq2=>
 aft (λr=>some r) (λs3=>
  some (s3:(List Bool))) q2
def gZ (p0:(List Bool)) (v9:Int) (s1:(List Int)):Option ((List Int)⊕(((List Int))⊕((List Int)))):=
 bw (idx p0 v9) λx12=>
 bw (bif x12 then
  bw (appS 8 s1 ([v9]:List Int)) λx18=>
  some (x18:(List Int))
 else
  some (s1:(List Int))) λq4=>
 some (.inr (.inr (q4:(List Int))))
def fo (p0:(List Bool)):Option ((List Int)):=
 bw (cntM (gZ p0) p0.length 0 (([]:List Int):(List Int))) λq2=>
 aft (λr=>some r) (λs3=>
  some (s3:(List Int))) q2
def i8 (p0:Parity) (p1:(List Int)) (v10:Int) (s1:Int):Option (Int⊕((Int)⊕(Int))):=
 bw (idx p1 v10) λx12=>
 bw (idx p0.Prio x12) λx18=>
 some (.inr (.inr ((if s1<x18 then x18 else s1):Int)))
def mw (p0:Parity) (p1:(List Int)):Option (Int):=
 bw (cntM (i8 p0 p1) p1.length 0 ((-1):Int)) λq2=>
 aft (λr=>some r) (λs3=>
  some (s3:Int)) q2
def cu (p2:(List Bool)) (x43:Int) (x79:(List Int)) (v82:Int) (s8:(List Int)):Option ((List Bool)⊕(((List Int))⊕((List Int)))):=
 bw (idx x79 v82) λx84=>
 bw (idx p2 x84) λx88=>
 bw (bif x88 then
  bw (idx s8 x43) λx92=>
  bw (idx s8 x43) λx95=>
  bw (setI s8 x43 (IntKind.i64.wrap (x92+1))) λy363=>
  some (y363:(List Int))
 else
  some (s8:(List Int))) λq11=>
 some (.inr (.inr (q11:(List Int))))
def cP (p0:solver) (p1:Int) (p2:(List Bool)) (x38:(List Int)) (v41:Int) (s4:(List Int)×(List Bool)×(List Int)):Option ((List Bool)⊕(((List Int)×(List Bool)×(List Int))⊕((List Int)×(List Bool)×(List Int)))):=
 bw (idx x38 v41) λx43=>
 bw (idx s4.2.1 x43) λx47=>
 bw (bif x47 then
 some true
 else
 bw (idx p2 x43) λx52=>
 some (!x52)) λp55=>
 bif p55 then
  some (.inr (.inr ((s4.1:(List Int)),(s4.2.1:(List Bool)),(s4.2.2:(List Int)))))
 else
  bw (idx p0.game.Arena.Owner x43) λx63=>
  bif (x63 !=p1) then
   bw (idx s4.2.2 x43) λx69=>
   bw (bif (x69==0) then
    bw (idx p0.game.Arena.Next x43) λx79=>
    bw (cntM (cu p2 x43 x79) x79.length 0 (s4.2.2:(List Int))) λq9=>
    aft (λr=>none) (λs10=>
     some (s10:(List Int))) q9
   else
    some (s4.2.2:(List Int))) λq7=>
   bw (idx q7 x43) λx99=>
   bw (idx q7 x43) λx102=>
   bw (setI q7 x43 (IntKind.i64.wrap (x99-1))) λy364=>
   bw (idx y364 x43) λx105=>
   bif decide (0<x105) then
    some (.inr (.inr ((s4.1:(List Int)),(s4.2.1:(List Bool)),(y364:(List Int)))))
   else
    bw (idx s4.2.1 x43) λx110=>
    bw (setI s4.2.1 x43 true) λy365=>
    bw (appS 8 s4.1 ([x43]:List Int)) λx114=>
    some (.inr (.inr ((x114:(List Int)),(y365:(List Bool)),(y364:(List Int)))))
  else
   bw (idx s4.2.1 x43) λx110=>
   bw (setI s4.2.1 x43 true) λy365=>
   bw (appS 8 s4.1 ([x43]:List Int)) λx114=>
   some (.inr (.inr ((x114:(List Int)),(y365:(List Bool)),(s4.2.2:(List Int)))))
def dr (p0:solver) (p1:Int) (p2:(List Bool)) (s1:(List Int)×(List Bool)×(List Int)):Option ((List Bool)⊕(((List Int)×(List Bool)×(List Int))⊕((List Int)×(List Bool)×(List Int)))):=
 bif decide (0<(s1.1.length:Int)) then
  bw (idx s1.1 0) λx29=>
  bw (subS s1.1 1 (s1.1.length:Int)) λx32=>
  bw (idx p0.preds x29) λx38=>
  bw (cntM (cP p0 p1 p2 x38) x38.length 0 ((x32:(List Int)),(s1.2.1:(List Bool)),(s1.2.2:(List Int)))) λq5=>
  aft (λr=>some (.inl r)) (λs6=>
   some (.inr (.inr ((s6.1:(List Int)),(s6.2.1:(List Bool)),(s6.2.2:(List Int)))))) q5
 else
  some (.inr (.inl ((s1.1:(List Int)),(s1.2.1:(List Bool)),(s1.2.2:(List Int)))))
def d9 (p0:solver) (p1:Int) (p2:(List Bool)) (p3:(List Bool)):Option ((List Bool)):=
 bw (appS 1 ([]:List Bool) p3) λx19=>
 bw (mkS 8 (p2.length:Int) (0:Int)) λx22=>
 bw (fo p3) λx24=>
 bw (whileM (dr p0 p1 p2) (2 ^ 64) ((x24:(List Int)),(x19:(List Bool)),(x22:(List Int)))) λq2=>
 aft (λr=>some r) (λs3=>
  some (s3.2.1:(List Bool))) q2
def gc (p0:(List Bool)) (p1:(List Bool)) (v12:Int) (s1:(List Bool)):Option ((List Bool)⊕(((List Bool))⊕((List Bool)))):=
 bw (idx p0 v12) λx19=>
 bw (bif x19 then
 bw (idx p1 v12) λx24=>
 some (!x24)
 else
 some false) λp27=>
 bw (idx s1 v12) λx28=>
 bw (setI s1 v12 p27) λy369=>
 some (.inr (.inr (y369:(List Bool))))
def d7 (p0:(List Bool)) (p1:(List Bool)):Option ((List Bool)):=
 bw (mkS 1 (p0.length:Int) (false:Bool)) λx9=>
 bw (cntM (gc p0 p1) p0.length 0 (x9:(List Bool))) λq2=>
 aft (λr=>some r) (λs3=>
  some (s3:(List Bool))) q2
def cm (p0:(List Bool)) (p1:Bool) (v8:Int) (s1:Unit):Option (Int⊕((Unit)⊕(Unit))):=
 bw (idx p0 v8) λx14=>
 bif (p1==x14) then
  some (.inl (v8:Int))
 else
  some (.inr (.inr ()))
def cN (p0:(List Bool)) (p1:Bool):Option (Int):=
 bw (cntM (cm p0 p1) p0.length 0 ()) λq2=>
 aft (λr=>some r) (λs3=>
  some ((-1):Int)) q2
def cd (p0:(List Bool)) (p1:Bool):Option (Bool):=
 bw (cN p0 p1) λx7=>
 some (decide (0<=x7):Bool)
def dV (p0:solver) (x27:Int) (s1:(List Bool)) (v38:Int) (s4:(List Bool)):Option (((List Bool)×Int)⊕(((List Bool))⊕((List Bool)))):=
 bw (idx s1 v38) λx45=>
 bw (bif x45 then
 bw (idx p0.game.Prio v38) λx54=>
 some (x54==x27)
 else
 some false) λp58=>
 bw (idx s4 v38) λx59=>
 bw (setI s4 v38 p58) λy358=>
 some (.inr (.inr (y358:(List Bool))))
def dW (rc:solver->(List Bool)->Option ((List Bool)×Int)) (p0:solver) (p1:(List Bool)) (x27:Int) (s1:(List Bool)):Option (((List Bool)×Int)⊕(((List Bool))⊕((List Bool)))):=
 bw (mkS 1 (p1.length:Int) (false:Bool)) λx35=>
 bw (cntM (dV p0 x27 s1) x35.length 0 (x35:(List Bool))) λq5=>
 aft (λr=>some (.inl r)) (λs6=>
  bw (d9 p0 (Int.tmod x27 2) s1 s6) λx66=>
  bw (d7 s1 x66) λx67=>
  bw (rc p0 x67) λx71=>
  bw (bif (x71.2==(Int.tmod x27 2)) then
   bw (d7 x67 x71.1) λx80=>
   some (x80:(List Bool))
  else
   some (x71.1:(List Bool))) λq7=>
  bw (cd q7 true) λx82=>
  bif (!x82) then
   some (.inl ((s1:(List Bool)),((Int.tmod x27 2):Int)))
  else
   bw (d9 p0 (IntKind.i64.wrap (1-(Int.tmod x27 2))) s1 q7) λx92=>
   bw (d7 s1 x92) λx93=>
   bw (cd x93 true) λx95=>
   bif (!x95) then
    some (.inl ((x93:(List Bool)),((Int.tmod x27 2):Int)))
   else
    some (.inr (.inr (x93:(List Bool))))) q5
def cR (rc:solver->(List Bool)->Option ((List Bool)×Int)) (p0:solver) (p1:(List Bool)):Option ((List Bool)×Int):=
 bw (fo p1) λx17=>
 bif ((x17.length:Int)==0) then
  some ((p1:(List Bool)),(0:Int))
 else
  bw (mw p0.game x17) λx27=>
  bw (appS 1 ([]:List Bool) p1) λx32=>
  bw (whileM (dW rc p0 p1 x27) (2 ^ 64) (x32:(List Bool))) λq2=>
  aft (λr=>some r) (λs3=>
   none) q2
def cM:Nat->solver->(List Bool)->Option ((List Bool)×Int)
 | 0=>λ_ _=>none
 | n+1=>cR (cM n)
def ll (p0:Parity) (p1:(List Int)):Option ((List Int)×(List Int)):=
 bw (jL p0.Arena) λx13=>
 bw (kO p0.Arena p1) λx19=>
 bw (cM (2 ^ 64) (⟨p0,x13⟩:solver) x19) λx23=>
 bif (x23.2==0) then
  bw (fo x23.1) λx29=>
  bw (d7 x19 x23.1) λx32=>
  bw (fo x32) λx33=>
  some ((x29:(List Int)),(x33:(List Int)))
 else
  bw (d7 x19 x23.1) λx36=>
  bw (fo x36) λx37=>
  bw (fo x23.1) λx39=>
  some ((x37:(List Int)),(x39:(List Int)))
def gq (x17:(List Int)×(List Int)) (v22:Int) (s1:(List Int)):Option ((List Int)⊕(((List Int))⊕((List Int)))):=
 bw (idx x17.2 v22) λx24=>
 bw (idx s1 x24) λx28=>
 bw (setI s1 x24 1) λy383=>
 some (.inr (.inr (y383:(List Int))))
def fK (p0:Parity):Option ((List Int)):=
 bw (mkS 8 (p0.Prio.length:Int) (0:Int)) λx11=>
 bw (l9 p0.Arena) λx16=>
 bw (ll p0 x16) λx17=>
 bw (cntM (gq x17) x17.2.length 0 (x11:(List Int))) λq2=>
 aft (λr=>some r) (λs3=>
  some (s3:(List Int))) q2
def gh (p0:Arena) (v25:Int) (s1:Unit):Option (Bool⊕((Unit)⊕(Unit))):=
 bw (idx p0.Next v25) λx28=>
 bw (idx p0.Owner v25) λx33=>
 bw (bif decide (x33<0) then
 some true
 else
 bw (idx p0.Owner v25) λx40=>
 some (decide (1<x40))) λp43=>
 bw (bif p43 then
 some true
 else
 some (decide ((x28.length:Int)<1))) λp48=>
 bw (bif p48 then
 some true
 else
 some (decide (16<(x28.length:Int)))) λp53=>
 bw (bif p53 then
 some true
 else
 bw (kq x28 (p0.Owner.length:Int)) λx57=>
 some (!x57)) λp59=>
 bif p59 then
  some (.inl (false:Bool))
 else
  some (.inr (.inr ()))
def jR (p0:Arena):Option (Bool):=
 bw (bif decide ((p0.Owner.length:Int)<1) then
 some true
 else
 some (decide (256<(p0.Owner.length:Int)))) λp14=>
 bw (bif p14 then
 some true
 else
 some ((p0.Next.length:Int) !=(p0.Owner.length:Int))) λp21=>
 bif p21 then
  some (false:Bool)
 else
  bw (cntM (gh p0) p0.Next.length 0 ()) λq2=>
  aft (λr=>some r) (λs3=>
   some (true:Bool)) q2
def fd (p0:Parity) (v22:Int) (s1:Unit):Option (Bool⊕((Unit)⊕(Unit))):=
 bw (idx p0.Prio v22) λx24=>
 bw (bif decide (x24<0) then
 some true
 else
 some (decide (40<x24))) λp31=>
 bif p31 then
  some (.inl (false:Bool))
 else
  some (.inr (.inr ()))
def iT (p0:Parity):Option (Bool):=
 bw (jR p0.Arena) λx7=>
 bw (bif (!x7) then
 some true
 else
 some ((p0.Prio.length:Int) !=(p0.Arena.Owner.length:Int))) λp18=>
 bif p18 then
  some (false:Bool)
 else
  bw (cntM (fd p0) p0.Prio.length 0 ()) λq2=>
  aft (λr=>some r) (λs3=>
   some (true:Bool)) q2
def jB  (v11:Int) (s1:(List Int)):Option ((List Int)⊕(((List Int))⊕((List Int)))):=
 bw (idx s1 v11) λx16=>
 bw (setI s1 v11 (-1)) λy391=>
 some (.inr (.inr (y391:(List Int))))
def kU (p0:Arena):Option ((List Int)):=
 bw (mkS 8 (p0.Owner.length:Int) (0:Int)) λx8=>
 bw (cntM jB x8.length 0 (x8:(List Int))) λq2=>
 aft (λr=>some r) (λs3=>
  some (s3:(List Int))) q2
def ff (p0:Answer) (p1:Int) (v16:Int) (s1:(List Int)):Option ((List Int)⊕(((List Int))⊕((List Int)))):=
 bw (idx p0.Won v16) λx19=>
 bw (bif (x19==p1) then
  bw (appS 8 s1 ([v16]:List Int)) λx27=>
  some (x27:(List Int))
 else
  some (s1:(List Int))) λq4=>
 some (.inr (.inr (q4:(List Int))))
def jb (p0:Answer) (p1:Int):Option ((List Int)):=
 bif decide (256<(p0.Won.length:Int)) then
  some (([]:List Int):(List Int))
 else
  bw (cntM (ff p0 p1) p0.Won.length 0 (([]:List Int):(List Int))) λq2=>
  aft (λr=>some r) (λs3=>
   some (s3:(List Int))) q2
def eJ (p0:(List (List Int))) (v9:Int) (s1:(List (List Int))):Option ((List (List Int))⊕(((List (List Int)))⊕((List (List Int))))):=
 bw (idx p0 v9) λx11=>
 bw (appS 8 ([]:List Int) x11) λx16=>
 bw (appS 24 s1 ([x16]:List (List Int))) λx18=>
 some (.inr (.inr (x18:(List (List Int)))))
def jt (p0:(List (List Int))):Option ((List (List Int))):=
 bw (cntM (eJ p0) p0.length 0 (([]:List (List Int)):(List (List Int)))) λq2=>
 aft (λr=>some r) (λs3=>
  some (s3:(List (List Int)))) q2
def ie (p0:Arena):Option (Arena):=
 bw (appS 8 ([]:List Int) p0.Owner) λx6=>
 bw (jt p0.Next) λx9=>
 some ((⟨x6,x9⟩:Arena):Arena)
def gu (p1:(List Int)) (v12:Int) (s1:(List (List Int))):Option (Arena⊕(((List (List Int)))⊕((List (List Int))))):=
 bw (idx p1 v12) λx15=>
 bw (bif decide (0<=x15) then
  bw (idx s1 v12) λx24=>
  bw (setI s1 v12 (([x15]:List Int):(List Int))) λy408=>
  some (y408:(List (List Int)))
 else
  some (s1:(List (List Int)))) λq4=>
 some (.inr (.inr (q4:(List (List Int)))))
def j7 (p0:Arena) (p1:(List Int)):Option (Arena):=
 bw (ie p0) λx9=>
 bw (cntM (gu p1) p1.length 0 (x9.Next:(List (List Int)))) λq2=>
 aft (λr=>some r) (λs3=>
  some ((⟨x9.Owner,s3⟩:Arena):Arena)) q2
def kL (p0:Parity) (p1:(List Int)):Option (Parity):=
 bw (j7 p0.Arena p1) λx8=>
 bw (appS 8 ([]:List Int) p0.Prio) λx12=>
 some ((⟨(⟨x8.Owner,x8.Next⟩:Arena),x12⟩:Parity):Parity)
def eb (p0:Parity) (p2:(List Int)) (v19:Int) (x46:(List Int)) (x51:(List Int)) (v54:Int) (s4:(List Int)):Option (Answer⊕(((List Int))⊕((List Int)))):=
 bw (idx x51 v54) λx56=>
 bw (idx p2 x56) λx60=>
 bw (idx p2 v19) λx64=>
 bif (x60 !=x64) then
  some (.inr (.inr (s4:(List Int))))
 else
  bw (idx s4 v19) λx70=>
  bw (setI s4 v19 x56) λy398=>
  bw (kL p0 y398) λx74=>
  bw (ll x74 x46) λx76=>
  bw (idx p2 v19) λx81=>
  bw (bif (x81==0) then
  some ((x76.2.length:Int)==0)
  else
  some false) λp88=>
  bw (bif p88 then
  some true
  else
  bw (idx p2 v19) λx92=>
  bw (bif (x92==1) then
  some ((x76.1.length:Int)==0)
  else
  some false) λp99=>
  some p99) λp100=>
  bif p100 then
   some (.inr (.inl (y398:(List Int))))
  else
   bw (idx y398 v19) λx103=>
   bw (setI y398 v19 (-1)) λy411=>
   some (.inr (.inr (y411:(List Int))))
def e6 (p0:Parity) (p2:(List Int)) (v19:Int) (s1:(List Int)):Option (Answer⊕(((List Int))⊕((List Int)))):=
 bw (idx p2 v19) λx30=>
 bw (idx p0.Arena.Owner v19) λx26=>
 bw (bif (x26 !=x30) then
 some true
 else
 bw (idx s1 v19) λx36=>
 some (decide (0<=x36))) λp39=>
 bif p39 then
  some (.inr (.inr (s1:(List Int))))
 else
  bw (idx p2 v19) λx44=>
  bw (jb (⟨p2,([]:List Int)⟩:Answer) x44) λx46=>
  bw (idx p0.Arena.Next v19) λx51=>
  bw (cntM (eb p0 p2 v19 x46 x51) x51.length 0 (s1:(List Int))) λq5=>
  aft (λr=>some (.inl r)) (λs6=>
   some (.inr (.inr (s6:(List Int))))) q5
def jo (p0:Parity) (p1:(List Int)) (p2:(List Int)):Option (Answer):=
 bw (appS 8 ([]:List Int) p1) λx16=>
 bw (cntM (e6 p0 p2) x16.length 0 (x16:(List Int))) λq2=>
 aft (λr=>some r) (λs3=>
  bw (appS 8 ([]:List Int) p2) λx108=>
  some ((⟨x108,s3⟩:Answer):Answer)) q2
def jT (p0:Parity):Option (Answer):=
 bw (iT p0) λx4=>
 bif (!x4) then
  some ((⟨([]:List Int),([]:List Int)⟩:Answer):Answer)
 else
  bw (kU p0.Arena) λx10=>
  bw (fK p0) λx12=>
  bw (jo p0 x10 x12) λx13=>
  some (x13:Answer)
def fc (p0:Int) (c0:(List Place)) (c1:Int):Option (Bool):=
 bw (idx c0 p0) λx7=>
 some ((x7.At==c1):Bool)
def bX (p0:(List Int)) (c1_0:(List Place)) (c1_1:Int) (v8:Int) (s1:Unit):Option (Int⊕((Unit)⊕(Unit))):=
 bw (idx p0 v8) λx14=>
 bw (fc x14 c1_0 c1_1) λx16=>
 bif x16 then
  some (.inl (v8:Int))
 else
  some (.inr (.inr ()))
def bV (p0:(List Int)) (c1_0:(List Place)) (c1_1:Int):Option (Int):=
 bw (cntM (bX p0 c1_0 c1_1) p0.length 0 ()) λq2=>
 aft (λr=>some r) (λs3=>
  some ((-1):Int)) q2
def dG (p0:Sig) (p1:Det) (p2:Parity) (p3:(List Place)) (x42:Place) (x50:Int) (x54:Place) (x60:Int) (v66:Int) (s4:(List Int)×(List Int)):Option (Rival⊕(((List Int)×(List Int))⊕((List Int)×(List Int)))):=
 bw (idx p1.Next x42.At) λx72=>
 bw (fH p0) λx76=>
 bw (idx x72 (IntKind.i64.wrap ((IntKind.i64.wrap (v66 * x76))+(Int.tmod (IntKind.i64.wrap (x54.At-(p1.Next.length:Int))) x60)))) λx80=>
 bw (idx p2.Arena.Next x50) λx86=>
 bw (bV x86 p3 x80) λx89=>
 bw (idx p2.Arena.Next x50) λx94=>
 bw (idx x94 x89) λx97=>
 bw (cj s4.1 x97) λx101=>
 bw (bif decide (x101<0) then
  bw (appS 8 s4.1 ([x97]:List Int)) λx109=>
  some ((x109:(List Int)),((s4.1.length:Int):Int))
 else
  some ((s4.1:(List Int)),(x101:Int))) λq7=>
 bw (appS 8 s4.2 ([q7.2]:List Int)) λx113=>
 some (.inr (.inr ((q7.1:(List Int)),(x113:(List Int)))))
def dw (p0:Sig) (p1:Det) (p2:Parity) (p3:(List Place)) (x24:Answer) (s1:(List Int)×Int×(List Int)×(List (List Int))):Option (Rival⊕(((List Int)×Int×(List Int)×(List (List Int)))⊕((List Int)×Int×(List Int)×(List (List Int))))):=
 bif decide (s1.2.1<(s1.1.length:Int)) then
  bw (idx s1.1 s1.2.1) λx40=>
  bw (idx p3 x40) λx42=>
  bw (idx s1.1 s1.2.1) λx48=>
  bw (idx x24.Plan x48) λx50=>
  bw (idx p3 x50) λx54=>
  bw (fH p0) λx60=>
  bw (nz x60) λ_z61=>
  bw (nn p0.Out) λ_z65=>
  bw (rng (IntKind.i64.wrap (1 * 2 ^ (min (t5 p0.Out) (IntKind.bits IntKind.i64))))) λ_=>
  bw (cntM (dG p0 p1 p2 p3 x42 x50 x54 x60) (t5 ((IntKind.i64.wrap (1 * 2 ^ (min (t5 p0.Out) (IntKind.bits IntKind.i64))))-0)) 0 ((s1.1:(List Int)),(([]:List Int):(List Int)))) λq5=>
  aft (λr=>some (.inl r)) (λs6=>
   bw (appS 8 s1.2.2.1 ([(Int.tmod (IntKind.i64.wrap (x54.At-(p1.Next.length:Int))) x60)]:List Int)) λx119=>
   bw (appS 24 s1.2.2.2 ([s6.2]:List (List Int))) λx125=>
   some (.inr (.inr ((s6.1:(List Int)),((IntKind.i64.wrap (s1.2.1+1)):Int),(x119:(List Int)),(x125:(List (List Int))))))) q5
 else
  some (.inr (.inl ((s1.1:(List Int)),(s1.2.1:Int),(s1.2.2.1:(List Int)),(s1.2.2.2:(List (List Int))))))
def io (p0:Sig) (p1:Det) (p2:Parity) (p3:(List Place)):Option (Rival):=
 bw (jT p2) λx24=>
 bw (whileM (dw p0 p1 p2 p3 x24) (2 ^ 64) ((([0]:List Int):(List Int)),(0:Int),(([]:List Int):(List Int)),(([]:List (List Int)):(List (List Int))))) λq2=>
 aft (λr=>some r) (λs3=>
  some ((⟨s3.2.2.1,s3.2.2.2⟩:Rival):Rival)) q2
def dM (p0:Sig) (p1:(List Clause)):Option (Rival×Bool):=
 bw (dQ p0 p1) λx15=>
 bif (!x15.2) then
  some (((⟨([]:List Int),([]:List (List Int))⟩:Rival):Rival),(false:Bool))
 else
  bw (en p0 x15.1) λx24=>
  bw (ez x24.1 x24.2 0) λx30=>
  bw (bif (!x30.2.2) then
  some true
  else
  bw (fK x30.1) λx38=>
  bw (idx x38 0) λx39=>
  some (x39 !=1)) λp42=>
  bif p42 then
   some (((⟨([]:List Int),([]:List (List Int))⟩:Rival):Rival),(false:Bool))
  else
   bw (io p0 x15.1 x30.1 x30.2.1) λx48=>
   some ((x48:Rival),(true:Bool))
def fp (p0:(List Int)) (p1:(List Int)) (v5:Int) (s1:Unit):Option (Bool⊕((Unit)⊕(Unit))):=
 bw (idx p0 v5) λx19=>
 bw (idx p1 v5) λx23=>
 bif (x19 !=x23) then
  some (.inl (false:Bool))
 else
  some (.inr (.inr ()))
def eo (p0:(List Int)) (p1:(List Int)):Option (Bool):=
 bif ((p0.length:Int) !=(p1.length:Int)) then
  some (false:Bool)
 else
  bw (cntM (fp p0 p1) p0.length 0 ()) λq2=>
  aft (λr=>some r) (λs3=>
   some (true:Bool)) q2
def eq (p0:(List (List Int))) (p1:(List (List Int))) (v5:Int) (s1:Unit):Option (Bool⊕((Unit)⊕(Unit))):=
 bw (idx p0 v5) λx19=>
 bw (idx p1 v5) λx23=>
 bw (eo x19 x23) λx25=>
 bif (!x25) then
  some (.inl (false:Bool))
 else
  some (.inr (.inr ()))
def iy (p0:(List (List Int))) (p1:(List (List Int))):Option (Bool):=
 bif ((p0.length:Int) !=(p1.length:Int)) then
  some (false:Bool)
 else
  bw (cntM (eq p0 p1) p0.length 0 ()) λq2=>
  aft (λr=>some r) (λs3=>
   some (true:Bool)) q2
def gO (p0:Rival) (p1:Rival):Option (Bool):=
 bw (eo p0.In p1.In) λx9=>
 bif (!x9) then
  some (false:Bool)
 else
  bw (iy p0.Next p1.Next) λx15=>
  bif (!x15) then
   some (false:Bool)
  else
   some (true:Bool)
def jc (p0:Clause) (p1:Clause):Option (Bool):=
 bif (p0.Kind !=p1.Kind) then
  some (false:Bool)
 else
  bw (eo p0.A p1.A) λx14=>
  bif (!x14) then
   some (false:Bool)
  else
   bw (eo p0.B p1.B) λx20=>
   bif (!x20) then
    some (false:Bool)
   else
    some (true:Bool)
def eD (p0:(List Clause)) (p1:(List Clause)) (v5:Int) (s1:Unit):Option (Bool⊕((Unit)⊕(Unit))):=
 bw (idx p0 v5) λx19=>
 bw (idx p1 v5) λx23=>
 bw (jc x19 x23) λx25=>
 bif (!x25) then
  some (.inl (false:Bool))
 else
  some (.inr (.inr ()))
def iw (p0:(List Clause)) (p1:(List Clause)):Option (Bool):=
 bif ((p0.length:Int) !=(p1.length:Int)) then
  some (false:Bool)
 else
  bw (cntM (eD p0 p1) p0.length 0 ()) λq2=>
  aft (λr=>some r) (λs3=>
   some (true:Bool)) q2
def fG  (v5:Int) (s1:Int×(List Int)):Option ((Int×(List Int))⊕((Int×(List Int))⊕(Int×(List Int)))):=
 bw (idx s1.2 v5) λx15=>
 bw (setI s1.2 v5 s1.1) λy436=>
 some (.inr (.inr (((IntKind.i64.wrap (s1.1+1)):Int),(y436:(List Int)))))
def c9 (p0:(List Int)) (p1:Int):Option (Int×(List Int)):=
 bw (cntM fG p0.length 0 ((p1:Int),(p0:(List Int)))) λq2=>
 aft (λr=>some r) (λs3=>
  some ((s3.1:Int),(s3.2:(List Int)))) q2
def eR  (v5:Int) (s1:Int×(List Clause)):Option ((Int×(List Clause))⊕((Int×(List Clause))⊕(Int×(List Clause)))):=
 bw (idx s1.2 v5) λx15=>
 bw (setI s1.2 v5 ({ x15 with Kind:=s1.1 }:Clause)) λy434=>
 bw (idx y434 v5) λx21=>
 bw (c9 x21.A (IntKind.i64.wrap (s1.1+1))) λx25=>
 bw (setI y434 v5 (⟨x21.Kind,x25.2,x21.B⟩:Clause)) λyb435=>
 bw (idx yb435 v5) λx28=>
 bw (c9 x28.B x25.1) λx32=>
 bw (setI yb435 v5 (⟨x28.Kind,x28.A,x32.2⟩:Clause)) λyb437=>
 some (.inr (.inr ((x32.1:Int),(yb437:(List Clause)))))
def fg (p0:(List Clause)) (p1:Int):Option (Int×(List Clause)):=
 bw (cntM eR p0.length 0 ((p1:Int),(p0:(List Clause)))) λq2=>
 aft (λr=>some r) (λs3=>
  some ((s3.1:Int),(s3.2:(List Clause)))) q2
def eU  (v5:Int) (s1:Int×(List (List Int))):Option ((Int×(List (List Int)))⊕((Int×(List (List Int)))⊕(Int×(List (List Int))))):=
 bw (idx s1.2 v5) λx14=>
 bw (c9 x14 s1.1) λx17=>
 bw (setI s1.2 v5 x17.2) λyb442=>
 some (.inr (.inr ((x17.1:Int),(yb442:(List (List Int))))))
def fa (p0:(List (List Int))) (p1:Int):Option (Int×(List (List Int))):=
 bw (cntM eU p0.length 0 ((p1:Int),(p0:(List (List Int))))) λq2=>
 aft (λr=>some r) (λs3=>
  some ((s3.1:Int),(s3.2:(List (List Int))))) q2
def ir (p0:Rival) (p1:Int):Option (Int×(List Int)×(List (List Int))):=
 bw (c9 p0.In p1) λx8=>
 bw (fa p0.Next x8.1) λx12=>
 some ((x12.1:Int),(x8.2:(List Int)),(x12.2:(List (List Int))))
def fF (p0:(List Int)) (v5:Int) (s1:Int):Option (Int⊕((Int)⊕(Int))):=
 bw (idx p0 v5) λx14=>
 bif (x14 !=s1) then
  some (.inl ((-1):Int))
 else
  some (.inr (.inr ((IntKind.i64.wrap (s1+1)):Int)))
def eS (p0:(List Int)) (p1:Int):Option (Int):=
 bw (cntM (fF p0) p0.length 0 (p1:Int)) λq2=>
 aft (λr=>some r) (λs3=>
  some (s3:Int)) q2
def eP (p0:(List (List Int))) (v5:Int) (s1:Int):Option (Int⊕((Int)⊕(Int))):=
 bw (idx p0 v5) λx14=>
 bw (eS x14 s1) λx17=>
 bif decide (x17<0) then
  some (.inl ((-1):Int))
 else
  some (.inr (.inr (x17:Int)))
def fi (p0:(List (List Int))) (p1:Int):Option (Int):=
 bw (cntM (eP p0) p0.length 0 (p1:Int)) λq2=>
 aft (λr=>some r) (λs3=>
  some (s3:Int)) q2
def fP (p0:Rival) (p1:Int):Option (Int):=
 bw (eS p0.In p1) λx8=>
 bif decide (x8<0) then
  some ((-1):Int)
 else
  bw (fi p0.Next x8) λx14=>
  bif decide (x14<0) then
   some ((-1):Int)
  else
   some (x14:Int)
def cV (p0:Sig) (p1:(List Clause)):Option (Bool):=
 bw (iq p1 1048576) λx18=>
 bif decide (x18<0) then
  some (true:Bool)
 else
  bw (kY p0) λx23=>
  bw (dO p1) λx25=>
  bw (ej x23 x25) λx26=>
  bw (dO p1) λx30=>
  bw (kY p0) λx33=>
  bw (dM x33 x30) λx35=>
  bw (gO x35.1 x26.1) λx40=>
  bw (bif (!x40) then
  some true
  else
  some (x35.2 !=x26.2)) λp46=>
  bif p46 then
   some (false:Bool)
  else
   bw (dO p1) λx49=>
   bw (iw x30 x49) λx50=>
   bif (!x50) then
    some (false:Bool)
   else
    bw (fg x30 1) λx54=>
    bw (bif decide (x54.1<0) then
    some true
    else
    bw (gO x35.1 x26.1) λx60=>
    some (!x60)) λp62=>
    bw (bif p62 then
    some true
    else
    some (x35.2 !=x26.2)) λp67=>
    bif p67 then
     some (false:Bool)
    else
     bw (ir x35.1 1) λx70=>
     bw (fP (⟨x70.2.1,x70.2.2⟩:Rival) 1) λx73=>
     bif decide (x73<0) then
      some (false:Bool)
     else
      bif (x73 !=x70.1) then
       some (false:Bool)
      else
       bw (kY p0) λx81=>
       bw (dO p1) λx83=>
       bw (dM x81 x83) λx84=>
       bw (gO x84.1 x26.1) λx89=>
       bw (bif (!x89) then
       some true
       else
       some (x84.2 !=x26.2)) λp95=>
       bif p95 then
        some (false:Bool)
       else
        bw (fP (⟨x70.2.1,x70.2.2⟩:Rival) 1) λx98=>
        bif decide (x98<0) then
         some (false:Bool)
        else
         bif (x98 !=x70.1) then
          some (false:Bool)
         else
          some (true:Bool)
end Go.Proofs.YtpcjbkgbnoocaaaGreat
