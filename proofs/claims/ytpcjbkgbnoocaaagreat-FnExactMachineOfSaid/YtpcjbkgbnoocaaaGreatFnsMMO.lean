/- The functions on data. By program. -/
import Derived.Test.YtpcjbkgbnoocaaaGreatTypesMO
import Derived.Test.YtpcjbkgbnoocaaaGreatCompMO
set_option linter.unusedVariables false
set_option linter.unusedSimpArgs false
open Option renaming bind → bB
open Int renaming toNat → xh
namespace Go.Proofs.YtpcjbkgbnoocaaaGreat
open Go Go.Wk Go.Proofs
set_option maxRecDepth 100000
set_option maxHeartbeats 1000000
def iq (p0:(List Int)) (p1:Int):Option (Int):=
 bif decide ((IntKind.i64.wrap (p1-(p0.length:Int)))<0) then
  some ((-1):Int)
 else
  some ((IntKind.i64.wrap (p1-(p0.length:Int))):Int)
def kb (p0:Clause) (p1:Int):Option (Int):=
 bB (iq p0.A p1) λx8=>
 bif decide (x8<0) then
  some ((-1):Int)
 else
  bB (iq p0.B x8) λx14=>
  bif decide (x14<0) then
   some ((-1):Int)
  else
   some (x14:Int)
def ff (p0:(List Clause)) (v5:Int) (s1:Int):Option (Int⊕((Int)⊕(Int))):=
 bB (idx p0 v5) λx20=>
 bB (kb x20 s1) λx23=>
 bif decide (x23<0) then
  some (.inl ((-1):Int))
 else
  some (.inr (.inr (x23:Int)))
def jc (p0:(List Clause)) (p1:Int):Option (Int):=
 bif decide ((IntKind.i64.wrap (p1-(p0.length:Int)))<0) then
  some ((-1):Int)
 else
  bB (cntM (ff p0) p0.length 0 ((IntKind.i64.wrap (p1-(p0.length:Int))):Int)) λq2=>
  aft (λr=>some r) (λs3=>
   some (s3:Int)) q2
def mg (p0:Sig):Option (Sig):=
 some ((⟨p0.In,p0.Out⟩:Sig):Sig)
def fZ (p0:(List Int)) (v4:Int) (s1:(List Int)):Option ((List Int)⊕(((List Int))⊕((List Int)))):=
 bB (idx p0 v4) λx18=>
 bB (idx s1 v4) λx20=>
 bB (setI s1 v4 x18) λy10=>
 some (.inr (.inr (y10:(List Int))))
def iH (p0:(List Int)):Option ((List Int)):=
 bB (mkS 8 (p0.length:Int) (0:Int)) λx7=>
 bB (cntM (fZ p0) p0.length 0 (x7:(List Int))) λq2=>
 aft (λr=>some r) (λs3=>
  some (s3:(List Int))) q2
def jx (p0:Clause):Option (Clause):=
 bB (iH p0.A) λx9=>
 bB (iH p0.B) λx13=>
 some ((⟨p0.Kind,x9,x13⟩:Clause):Clause)
def fp (p0:(List Clause)) (v4:Int) (s1:(List Clause)):Option ((List Clause)⊕(((List Clause))⊕((List Clause)))):=
 bB (idx p0 v4) λx18=>
 bB (jx x18) λx20=>
 bB (idx s1 v4) λx21=>
 bB (setI s1 v4 (x20:Clause)) λy12=>
 some (.inr (.inr (y12:(List Clause))))
def ej (p0:(List Clause)):Option ((List Clause)):=
 bB (mkS 56 (p0.length:Int) ((⟨0,([]:List Int),([]:List Int)⟩:Clause):Clause)) λx7=>
 bB (cntM (fp p0) p0.length 0 (x7:(List Clause))) λq2=>
 aft (λr=>some r) (λs3=>
  some (s3:(List Clause))) q2
def dr (p0:Int) (p1:Int) (p2:Int):Option (Bool):=
 bB (bif decide (p1<=p0) then
 some (decide (p0<=p2))
 else
 some false) λp14=>
 some (p14:Bool)
def jq (p0:Sig):Option (Bool):=
 bB (dr p0.In 1 2) λx5=>
 bB (bif x5 then
 bB (dr p0.Out 1 2) λx9=>
 some x9
 else
 some false) λp10=>
 some (p10:Bool)
def eK  (s1:Int×Int):Option (Int⊕((Int×Int)⊕(Int×Int))):=
 bif decide (0<s1.1) then
  some (.inr (.inr (((IntKind.i64.wrap (s1.1-1)):Int),((IntKind.i64.wrap (s1.2 * 2)):Int))))
 else
  some (.inr (.inl (s1.1,s1.2)))
def cZ (p0:Int):Option (Int):=
 bB (bZ eK (2 ^ 64) (p0,(1:Int))) λq2=>
 aft (λr=>some r) (λs3=>
  some (s3.2:Int)) q2
def cV (p0:Sig):Option (Int):=
 bB (jq p0) λx4=>
 bif (!x4) then
  some (0:Int)
 else
  bB (cZ (IntKind.i64.wrap (p0.In+p0.Out))) λx11=>
  some (x11:Int)
def gN (p0:(List Int)) (p1:Int) (v5:Int) (s1:Unit):Option (Bool⊕((Unit)⊕(Unit))):=
 bB (idx p0 v5) λx14=>
 bB (dr x14 0 (IntKind.i64.wrap (p1-1))) λx18=>
 bB (bif (!x18) then
 some true
 else
 bB (bif decide (0<v5) then
 bB (idx p0 v5) λx26=>
 bB (idx p0 (IntKind.i64.wrap (v5-1))) λx31=>
 some (decide (x26<=x31))
 else
 some false) λp34=>
 some p34) λp35=>
 bif p35 then
  some (.inl (false:Bool))
 else
  some (.inr (.inr ()))
def kR (p0:(List Int)) (p1:Int):Option (Bool):=
 bB (cntM (gN p0 p1) p0.length 0 ()) λq2=>
 aft (λr=>some r) (λs3=>
  some (true:Bool)) q2
def kg (p0:(List Int)) (p1:Int):Option (Bool):=
 bB (bif decide ((p0.length:Int)<=p1) then
 bB (kR p0 p1) λx12=>
 some x12
 else
 some false) λp13=>
 some (p13:Bool)
def mq (p0:Int):Option (Bool):=
 bB (bif (p0==2) then
 some true
 else
 some (p0==3)) λp8=>
 bB (bif p8 then
 some true
 else
 some (p0==7)) λp12=>
 some (p12:Bool)
def iD (p0:Sig) (p1:Clause):Option (Bool):=
 bB (jq p0) λx7=>
 bB (bif (!x7) then
 some true
 else
 bB (dr p1.Kind 1 7) λx12=>
 some (!x12)) λp14=>
 bif p14 then
  some (false:Bool)
 else
  bB (cV p0) λx16=>
  bB (kg p1.A x16) λx20=>
  bB (bif x20 then
  bB (kg p1.B x16) λx25=>
  some x25
  else
  some false) λp26=>
  bB (bif p26 then
  bB (mq p1.Kind) λx30=>
  bB (bif x30 then
  some true
  else
  some ((p1.B.length:Int)==0)) λp36=>
  some p36
  else
  some false) λp37=>
  some (p37:Bool)
def fu (p0:Sig) (p1:(List Clause)) (v5:Int) (s1:Unit):Option (Bool⊕((Unit)⊕(Unit))):=
 bB (idx p1 v5) λx23=>
 bB (iD p0 x23) λx25=>
 bif (!x25) then
  some (.inl (false:Bool))
 else
  some (.inr (.inr ()))
def ft (p0:Sig) (p1:(List Clause)):Option (Bool):=
 bB (jq p0) λx7=>
 bB (bif (!x7) then
 some true
 else
 some (decide (3<(p1.length:Int)))) λp13=>
 bif p13 then
  some (false:Bool)
 else
  bB (cntM (fu p0 p1) p1.length 0 ()) λq2=>
  aft (λr=>some r) (λs3=>
   some (true:Bool)) q2
def kL (p0:Int):Option (Pair):=
 bB (bif (p0==1) then
  some (true:Bool)
 else
  some ((p0==5):Bool)) λq1=>
 bif q1 then
  some ((⟨([1]:List Int),([]:List Int)⟩:Pair):Pair)
 else
  bif (p0==2) then
   some ((⟨([2]:List Int),([]:List Int)⟩:Pair):Pair)
  else
   bif (p0==3) then
    some ((⟨([1]:List Int),([0]:List Int)⟩:Pair):Pair)
   else
    bif (p0==4) then
     some ((⟨([0,1]:List Int),([1]:List Int)⟩:Pair):Pair)
    else
     bif (p0==6) then
      some ((⟨([0]:List Int),([]:List Int)⟩:Pair):Pair)
     else
      some ((⟨([2,3]:List Int),([1,3]:List Int)⟩:Pair):Pair)
def iO (p0:Int):Option (Int):=
 bif (p0==2) then
  some (3:Int)
 else
  bif (p0==7) then
   some (4:Int)
  else
   some (2:Int)
def jM (p0:(List Int)) (p1:Int) (v5:Int) (s1:Unit):Option (Bool⊕((Unit)⊕(Unit))):=
 bB (idx p0 v5) λx14=>
 bif (x14==p1) then
  some (.inl (true:Bool))
 else
  some (.inr (.inr ()))
def kn (p0:(List Int)) (p1:Int):Option (Bool):=
 bB (cntM (jM p0 p1) p0.length 0 ()) λq2=>
 aft (λr=>some r) (λs3=>
  some (false:Bool)) q2
def g7 (p0:Bool):Option (Int):=
 bif p0 then
  some (1:Int)
 else
  some (0:Int)
def jp (p0:Int) (p1:Int):Option (Int):=
 bif decide (p1<p0) then
  some (p0:Int)
 else
  some (p1:Int)
def kX (p0:Clause) (p1:Int) (p2:Int):Option (Int):=
 bB (kn p0.A p2) λx12=>
 bB (g7 x12) λx13=>
 bB (kn p0.B p2) λx17=>
 bB (g7 x17) λx18=>
 bif (p0.Kind==1) then
  bB (jp p1 (IntKind.i64.wrap (1-x13))) λx26=>
  some (x26:Int)
 else
  bif (p0.Kind==2) then
   bB (bif (p1==2) then
   some true
   else
   bB (bif (p1==1) then
   some (x18==0)
   else
   some false) λp37=>
   some p37) λp38=>
   bif p38 then
    some (2:Int)
   else
    some (x13:Int)
  else
   bif (p0.Kind==3) then
    bif (x18==1) then
     some (0:Int)
    else
     bB (jp p1 x13) λx46=>
     some (x46:Int)
   else
    bif (p0.Kind==4) then
     some (x13:Int)
    else
     bif (p0.Kind==5) then
      some ((IntKind.i64.wrap (1-x13)):Int)
     else
      bif (p0.Kind==6) then
       bB (jp p1 x13) λx58=>
       some (x58:Int)
      else
       some ((IntKind.i64.wrap ((IntKind.i64.wrap (2 * x13))+x18)):Int)
def eT (p0:Sig) (p1:Clause) (s1:Int×(List (List Int))) (s4:(List Int)×Int):Option (Det⊕(((List Int)×Int)⊕((List Int)×Int))):=
 bB (cV p0) λx29=>
 bif decide (s4.2<x29) then
  bB (kX p1 s1.1 s4.2) λx37=>
  bB (appS 8 s4.1 ([x37]:List Int)) λx39=>
  some (.inr (.inr (x39,((IntKind.i64.wrap (s4.2+1)):Int))))
 else
  some (.inr (.inl (s4.1,s4.2)))
def fd (p0:Sig) (p1:Clause) (s1:Int×(List (List Int))):Option (Det⊕((Int×(List (List Int)))⊕(Int×(List (List Int))))):=
 bB (iO p1.Kind) λx22=>
 bif decide (s1.1<x22) then
  bB (bZ (eT p0 p1 s1) (2 ^ 64) ((([]:List Int):(List Int)),(0:Int))) λq5=>
  aft (λr=>some (.inl r)) (λs6=>
   bB (appS 24 s1.2 ([s6.1]:List (List Int))) λx44=>
   some (.inr (.inr (((IntKind.i64.wrap (s1.1+1)):Int),x44)))) q5
 else
  some (.inr (.inl (s1.1,s1.2)))
def jg (p0:Sig) (p1:Clause):Option (Det):=
 bB (iD p0 p1) λx11=>
 bif (!x11) then
  some ((⟨([]:List (List Int)),([]:List Pair)⟩:Det):Det)
 else
  bB (kL p1.Kind) λx16=>
  bB (bZ (fd p0 p1) (2 ^ 64) ((0:Int),(([]:List (List Int)):(List (List Int))))) λq2=>
  aft (λr=>some r) (λs3=>
   some ((⟨s3.2,([x16]:List Pair)⟩:Det):Det)) q2
def gj (p0:(List Int)) (p1:Int) (v5:Int) (s1:Unit):Option (Bool⊕((Unit)⊕(Unit))):=
 bB (idx p0 v5) λx14=>
 bB (dr x14 0 (IntKind.i64.wrap (p1-1))) λx18=>
 bif (!x18) then
  some (.inl (false:Bool))
 else
  some (.inr (.inr ()))
def jQ (p0:(List Int)) (p1:Int):Option (Bool):=
 bB (cntM (gj p0 p1) p0.length 0 ()) λq2=>
 aft (λr=>some r) (λs3=>
  some (true:Bool)) q2
def mw (p0:(List Int)) (p1:Int):Option (Bool):=
 bB (dr p1 0 256) λx6=>
 bB (bif x6 then
 bB (kg p0 p1) λx10=>
 some x10
 else
 some false) λp11=>
 some (p11:Bool)
def gU (p0:(List Pair)) (p1:Int) (v5:Int) (s1:Unit):Option (Bool⊕((Unit)⊕(Unit))):=
 bB (idx p0 v5) λx22=>
 bB (mw x22.Ask p1) λx26=>
 bB (bif (!x26) then
 some true
 else
 bB (idx p0 v5) λx31=>
 bB (mw x31.Give p1) λx35=>
 some (!x35)) λp37=>
 bif p37 then
  some (.inl (false:Bool))
 else
  some (.inr (.inr ()))
def ju (p0:(List Pair)) (p1:Int):Option (Bool):=
 bB (dr p1 0 256) λx7=>
 bB (bif (!x7) then
 some true
 else
 some (decide (4<(p0.length:Int)))) λp13=>
 bif p13 then
  some (false:Bool)
 else
  bB (cntM (gU p0 p1) p0.length 0 ()) λq2=>
  aft (λr=>some r) (λs3=>
   some (true:Bool)) q2
def j7 (p0:Sig) (p1:Det) (v6:Int) (s1:Unit):Option (Bool⊕((Unit)⊕(Unit))):=
 bB (idx p1.Next v6) λx28=>
 bB (cV p0) λx32=>
 bB (bif ((x28.length:Int) !=x32) then
 some true
 else
 bB (idx p1.Next v6) λx38=>
 bB (jQ x38 (p1.Next.length:Int)) λx41=>
 some (!x41)) λp43=>
 bif p43 then
  some (.inl (false:Bool))
 else
  some (.inr (.inr ()))
def js (p0:Sig) (p1:Det):Option (Bool):=
 bB (jq p0) λx11=>
 bB (bif (!x11) then
 some true
 else
 bB (dr (p1.Next.length:Int) 1 48) λx15=>
 some (!x15)) λp17=>
 bif p17 then
  some (false:Bool)
 else
  bB (cntM (j7 p0 p1) p1.Next.length 0 ()) λq2=>
  aft (λr=>some r) (λs3=>
   bB (ju p1.Pairs (p1.Next.length:Int)) λx47=>
   some (x47:Bool)) q2
def fQ (p0:(List (List Int))) (p1:Int) (p2:Int) (v7:Int) (s1:Unit):Option (Int⊕((Unit)⊕(Unit))):=
 bB (idx p0 v7) λx16=>
 bB (idx x16 0) λx18=>
 bB (bif (x18==p1) then
 bB (idx p0 v7) λx25=>
 bB (idx x25 1) λx27=>
 some (x27==p2)
 else
 some false) λp31=>
 bif p31 then
  some (.inl (v7:Int))
 else
  some (.inr (.inr ()))
def jJ (p0:(List (List Int))) (p1:Int) (p2:Int):Option (Int):=
 bB (cntM (fQ p0 p1 p2) p0.length 0 ()) λq2=>
 aft (λr=>some r) (λs3=>
  some ((-1):Int)) q2
def gn (p0:(List Pair)) (p1:(List (List Int))) (p2:Int) (v8:Int) (v10:Int) (s4:(List Int)×(List Int)):Option ((List Pair)⊕(((List Int)×(List Int))⊕((List Int)×(List Int)))):=
 bB (idx p0 v8) λx27=>
 bB (idx p1 v10) λx32=>
 bB (idx x32 p2) λx35=>
 bB (kn x27.Ask x35) λx37=>
 bB (bif x37 then
  bB (appS 8 s4.1 ([v10]:List Int)) λx42=>
  some (x42:(List Int))
 else
  some (s4.1:(List Int))) λq7=>
 bB (idx p0 v8) λx46=>
 bB (idx p1 v10) λx51=>
 bB (idx x51 p2) λx54=>
 bB (kn x46.Give x54) λx56=>
 bB (bif x56 then
  bB (appS 8 s4.2 ([v10]:List Int)) λx61=>
  some (x61:(List Int))
 else
  some (s4.2:(List Int))) λq8=>
 some (.inr (.inr (q7,q8)))
def fL (p0:(List Pair)) (p1:(List (List Int))) (p2:Int) (v8:Int) (s1:(List Pair)):Option ((List Pair)⊕(((List Pair))⊕((List Pair)))):=
 bB (cntM (gn p0 p1 p2 v8) p1.length 0 ((([]:List Int):(List Int)),(([]:List Int):(List Int)))) λq5=>
 aft (λr=>some (.inl r)) (λs6=>
  bB (appS 48 s1 ([(⟨s6.1,s6.2⟩:Pair)]:List Pair)) λx66=>
  some (.inr (.inr (x66:(List Pair))))) q5
def iz (p0:(List Pair)) (p1:(List (List Int))) (p2:Int):Option ((List Pair)):=
 bB (cntM (fL p0 p1 p2) p0.length 0 (([]:List Pair):(List Pair))) λq2=>
 aft (λr=>some r) (λs3=>
  some (s3:(List Pair))) q2
def dK (p0:Det) (p1:Det) (s1:(List (List Int))×Int×(List (List Int))) (v12:Int) (s4:(List (List Int))×(List Int)):Option ((Det×Bool)⊕(((List (List Int))×(List Int))⊕((List (List Int))×(List Int)))):=
 bB (idx s4.1 s1.2.1) λx35=>
 bB (idx x35 0) λx37=>
 bB (idx p0.Next x37) λx39=>
 bB (idx x39 v12) λx42=>
 bB (idx s4.1 s1.2.1) λx48=>
 bB (idx x48 1) λx50=>
 bB (idx p1.Next x50) λx52=>
 bB (idx x52 v12) λx55=>
 bB (jJ s4.1 x42 x55) λx60=>
 bB (bif decide (x60<0) then
  bB (appS 24 s4.1 ([([x42,x55]:List Int)]:List (List Int))) λx70=>
  some (x70,((s4.1.length:Int):Int))
 else
  some (s4.1,x60)) λq7=>
 bB (appS 8 s4.2 ([q7.2]:List Int)) λx74=>
 some (.inr (.inr (q7.1,x74)))
def fh (p0:Det) (p1:Det) (p2:Int) (s1:(List (List Int))×Int×(List (List Int))):Option ((Det×Bool)⊕(((List (List Int))×Int×(List (List Int)))⊕((List (List Int))×Int×(List (List Int))))):=
 bif decide (s1.2.1<(s1.1.length:Int)) then
  bB (rng p2) λ_=>
  bB (cntM (dK p0 p1 s1) (xh (p2-0)) 0 (s1.1,(([]:List Int):(List Int)))) λq5=>
  aft (λr=>some (.inl r)) (λs6=>
   bif decide (48<(s6.1.length:Int)) then
    some (.inl (((⟨([]:List (List Int)),([]:List Pair)⟩:Det):Det),false))
   else
    bB (appS 24 s1.2.2 ([s6.2]:List (List Int))) λx83=>
    some (.inr (.inr (s6.1,((IntKind.i64.wrap (s1.2.1+1)):Int),x83)))) q5
 else
  some (.inr (.inl (s1.1,s1.2.1,s1.2.2)))
def eg (p0:Det) (p1:Det) (p2:Int):Option (Det×Bool):=
 bB (bZ (fh p0 p1 p2) (2 ^ 64) ((([([0,0]:List Int)]:List (List Int)):(List (List Int))),(0:Int),(([]:List (List Int)):(List (List Int))))) λq2=>
 aft (λr=>some r) (λs3=>
  bB (iz p0.Pairs s3.1 0) λx88=>
  bB (iz p1.Pairs s3.1 1) λx92=>
  bB (appS 48 x88 x92) λx93=>
  some (((⟨s3.2.2,x93⟩:Det):Det),true)) q2
def ja (p0:Sig) (p1:Det) (p2:Det):Option (Det×Bool):=
 bB (js p0 p1) λx10=>
 bB (bif (!x10) then
 some true
 else
 bB (js p0 p2) λx15=>
 some (!x15)) λp17=>
 bB (bif p17 then
 some true
 else
 some (decide (4<(IntKind.i64.wrap ((p1.Pairs.length:Int)+(p2.Pairs.length:Int)))))) λp27=>
 bif p27 then
  some (((⟨([]:List (List Int)),([]:List Pair)⟩:Det):Det),false)
 else
  bB (cV p0) λx32=>
  bB (eg p1 p2 x32) λx33=>
  some (x33.1,x33.2)
def dW (p0:Sig) (p1:(List Clause)) (v7:Int) (s1:(List (List Int))×(List Pair)):Option ((Det×Bool)⊕(((List (List Int))×(List Pair))⊕((List (List Int))×(List Pair)))):=
 bB (idx p1 v7) λx32=>
 bB (jg p0 x32) λx34=>
 bB (ja p0 (⟨s1.1,s1.2⟩:Det) x34) λx35=>
 bif (!x35.2) then
  some (.inl (((⟨([]:List (List Int)),([]:List Pair)⟩:Det):Det),false))
 else
  some (.inr (.inr (x35.1.Next,x35.1.Pairs)))
def ed (p0:Sig) (p1:(List Clause)):Option (Det×Bool):=
 bB (ft p0 p1) λx12=>
 bif (!x12) then
  some (((⟨([]:List (List Int)),([]:List Pair)⟩:Det):Det),false)
 else
  bB (cV p0) λx16=>
  bB (mkS 8 x16 (0:Int)) λx17=>
  bB (cntM (dW p0 p1) p1.length 0 ((([x17]:List (List Int)):(List (List Int))),(([]:List Pair):(List Pair)))) λq2=>
  aft (λr=>some r) (λs3=>
   some (((⟨s3.1,s3.2⟩:Det):Det),true)) q2
def df (p0:Sig):Option (Int):=
 bB (cZ p0.In) λx5=>
 some (x5:Int)
def iv (p0:Sig) (p1:Int) (p2:Int):Option (Int):=
 bB (jq p0) λx8=>
 bB (bif (!x8) then
 some true
 else
 bB (cZ p0.In) λx14=>
 bB (dr p1 0 (IntKind.i64.wrap (x14-1))) λx16=>
 some (!x16)) λp18=>
 bB (bif p18 then
 some true
 else
 bB (cZ p0.Out) λx23=>
 bB (dr p2 0 (IntKind.i64.wrap (x23-1))) λx25=>
 some (!x25)) λp27=>
 bif p27 then
  some ((-1):Int)
 else
  bB (cZ p0.In) λx31=>
  some ((IntKind.i64.wrap ((IntKind.i64.wrap (p2 * x31))+p1)):Int)
def dz (p0:(List Int)):Option ((List Int)):=
 bB (appS 8 ([]:List Int) p0) λx5=>
 some (x5:(List Int))
def fw (p0:(List Int)) (p1:Int) (s1:Int):Option ((List Int)⊕((Int)⊕(Int))):=
 bB (bif decide (s1<(p0.length:Int)) then
 bB (idx p0 s1) λx14=>
 some (decide (x14<p1))
 else
 some false) λp18=>
 bif p18 then
  some (.inr (.inr ((IntKind.i64.wrap (s1+1)):Int)))
 else
  some (.inr (.inl (s1:Int)))
def iX (p0:(List Int)) (p1:Int):Option ((List Int)):=
 bB (bZ (fw p0 p1) (2 ^ 64) (0:Int)) λq2=>
 aft (λr=>some r) (λs3=>
  bB (bif decide (s3<(p0.length:Int)) then
  bB (idx p0 s3) λx28=>
  some (x28==p1)
  else
  some false) λp32=>
  bif p32 then
   some (p0:(List Int))
  else
   bB (subS p0 0 s3) λx36=>
   bB (dz x36) λx37=>
   bB (appS 8 x37 ([p1]:List Int)) λx40=>
   bB (subS p0 s3 (p0.length:Int)) λx44=>
   bB (appS 8 x40 x44) λx45=>
   some (x45:(List Int))) q2
def gc (p0:Sig) (p1:Det) (p2:Int) (p3:Int) (s1:(List Int)×Int):Option ((List Int)⊕(((List Int)×Int)⊕((List Int)×Int))):=
 bB (cZ p0.Out) λx15=>
 bif decide (s1.2<x15) then
  bB (idx p1.Next p2) λx23=>
  bB (iv p0 p3 s1.2) λx28=>
  bB (idx x23 x28) λx29=>
  bB (iX s1.1 x29) λx31=>
  some (.inr (.inr (x31,((IntKind.i64.wrap (s1.2+1)):Int))))
 else
  some (.inr (.inl (s1.1,s1.2)))
def jT (p0:Sig) (p1:Det) (p2:Int) (p3:Int):Option ((List Int)):=
 bB (bZ (gc p0 p1 p2 p3) (2 ^ 64) ((([]:List Int):(List Int)),(0:Int))) λq2=>
 aft (λr=>some r) (λs3=>
  some (s3.1:(List Int))) q2
def dG (p1:Det) (x27:Int) (v10:Int) (v12:Int) (s4:(List Int)):Option ((Arena×(List Pair)×Bool)⊕(((List Int))⊕((List Int)))):=
 bB (appS 8 s4 ([(IntKind.i64.wrap ((IntKind.i64.wrap ((p1.Next.length:Int)+(IntKind.i64.wrap (v10 * x27))))+v12))]:List Int)) λx49=>
 some (.inr (.inr (x49:(List Int))))
def dY (p1:Det) (x27:Int) (v10:Int) (s1:(List Int)×(List (List Int))):Option ((Arena×(List Pair)×Bool)⊕(((List Int)×(List (List Int)))⊕((List Int)×(List (List Int))))):=
 bB (rng x27) λ_=>
 bB (cntM (dG p1 x27 v10) (xh (x27-0)) 0 (([]:List Int):(List Int))) λq5=>
 aft (λr=>some (.inl r)) (λs6=>
  bB (appS 8 s1.1 ([1]:List Int)) λx53=>
  bB (appS 24 s1.2 ([s6]:List (List Int))) λx59=>
  some (.inr (.inr (x53,x59)))) q5
def dL (p0:Sig) (p1:Det) (v13:Int) (v14:Int) (s10:(List Int)×(List (List Int))):Option ((Arena×(List Pair)×Bool)⊕(((List Int)×(List (List Int)))⊕((List Int)×(List (List Int))))):=
 bB (appS 8 s10.1 ([0]:List Int)) λx74=>
 bB (jT p0 p1 v13 v14) λx82=>
 bB (appS 24 s10.2 ([x82]:List (List Int))) λx84=>
 some (.inr (.inr (x74,x84)))
def dT (p0:Sig) (p1:Det) (x27:Int) (v13:Int) (s7:(List Int)×(List (List Int))):Option ((Arena×(List Pair)×Bool)⊕(((List Int)×(List (List Int)))⊕((List Int)×(List (List Int))))):=
 bB (rng x27) λ_=>
 bB (cntM (dL p0 p1 v13) (xh (x27-0)) 0 (s7.1,s7.2)) λq11=>
 aft (λr=>some (.inl r)) (λs12=>
  some (.inr (.inr (s12.1,s12.2)))) q11
def dP (p1:Det) (v16:Int) (s13:(List Pair)):Option ((Arena×(List Pair)×Bool)⊕(((List Pair))⊕((List Pair)))):=
 bB (idx p1.Pairs v16) λx98=>
 bB (idx p1.Pairs v16) λx105=>
 bB (dz x98.Ask) λx101=>
 bB (dz x105.Give) λx108=>
 bB (appS 48 s13 ([(⟨x101,x108⟩:Pair)]:List Pair)) λx111=>
 some (.inr (.inr (x111:(List Pair))))
def eV (p0:Sig) (p1:Det):Option (Arena×(List Pair)×Bool):=
 bB (js p0 p1) λx19=>
 bif (!x19) then
  some (((⟨([]:List Int),([]:List (List Int))⟩:Arena):Arena),(([]:List Pair):(List Pair)),false)
 else
  bB (df p0) λx27=>
  bB (cntM (dY p1 x27) p1.Next.length 0 ((([]:List Int):(List Int)),(([]:List (List Int)):(List (List Int))))) λq2=>
  aft (λr=>some r) (λs3=>
   bB (cntM (dT p0 p1 x27) p1.Next.length 0 (s3.1,s3.2)) λq8=>
   aft (λr=>some r) (λs9=>
    bB (cntM (dP p1) p1.Pairs.length 0 (([]:List Pair):(List Pair))) λq14=>
    aft (λr=>some r) (λs15=>
     some (((⟨s9.1,s9.2⟩:Arena):Arena),s15,true)) q14) q8) q2
def g8 (p0:Arena) (v4:Int) (s1:Unit):Option (Bool⊕((Unit)⊕(Unit))):=
 bB (idx p0.Owner v4) λx30=>
 bB (dr x30 0 1) λx32=>
 bB (bif (!x32) then
 some true
 else
 bB (idx p0.Next v4) λx38=>
 some (decide ((x38.length:Int)<1))) λp42=>
 bB (bif p42 then
 some true
 else
 bB (idx p0.Next v4) λx47=>
 some (decide (16<(x47.length:Int)))) λp51=>
 bB (bif p51 then
 some true
 else
 bB (idx p0.Next v4) λx56=>
 bB (kg x56 (p0.Owner.length:Int)) λx59=>
 some (!x59)) λp61=>
 bif p61 then
  some (.inl (false:Bool))
 else
  some (.inr (.inr ()))
def jt (p0:Arena):Option (Bool):=
 bB (dr (p0.Owner.length:Int) 1 256) λx9=>
 bB (bif (!x9) then
 some true
 else
 some ((p0.Next.length:Int) !=(p0.Owner.length:Int))) λp19=>
 bif p19 then
  some (false:Bool)
 else
  bB (cntM (g8 p0) p0.Owner.length 0 ()) λq2=>
  aft (λr=>some r) (λs3=>
   some (true:Bool)) q2
def iV (p0:(List Int)) (p1:Int) (v5:Int) (s1:Unit):Option (Bool⊕((Unit)⊕(Unit))):=
 bB (idx p0 v5) λx14=>
 bif (x14==p1) then
  some (.inl (true:Bool))
 else
  some (.inr (.inr ()))
def jY (p0:(List Int)) (p1:Int):Option (Bool):=
 bB (cntM (iV p0 p1) p0.length 0 ()) λq2=>
 aft (λr=>some r) (λs3=>
  some (false:Bool)) q2
def eo (p0:(List Pair)) (p1:(List Int)) (p2:Int) (v9:Int) (s1:(List Int)×(List Int)):Option ((List Int)⊕(((List Int)×(List Int))⊕((List Int)×(List Int)))):=
 bB (idx p1 v9) λx21=>
 bB (idx p0 x21) λx23=>
 bB (jY x23.Give p2) λx27=>
 bB (bif x27 then
  bB (idx p1 v9) λx31=>
  bB (appS 8 s1.1 ([x31]:List Int)) λx34=>
  some (x34,s1.2)
 else
  bB (idx p1 v9) λx38=>
  bB (appS 8 s1.2 ([x38]:List Int)) λx41=>
  some (s1.1,x41)) λq4=>
 some (.inr (.inr (q4.1,q4.2)))
def ir (p0:(List Pair)) (p1:(List Int)) (p2:Int):Option ((List Int)):=
 bB (cntM (eo p0 p1 p2) p1.length 0 ((([]:List Int):(List Int)),(([]:List Int):(List Int)))) λq2=>
 aft (λr=>some r) (λs3=>
  bB (appS 8 s3.1 s3.2) λx44=>
  some (x44:(List Int))) q2
def dO (p0:(List Int)) (p1:(List Int)) (v5:Int) (s1:Unit):Option (Bool⊕((Unit)⊕(Unit))):=
 bB (idx p0 v5) λx19=>
 bB (idx p1 v5) λx23=>
 bif (x19 !=x23) then
  some (.inl (false:Bool))
 else
  some (.inr (.inr ()))
def fS (p0:(List Int)) (p1:(List Int)):Option (Bool):=
 bif ((p0.length:Int) !=(p1.length:Int)) then
  some (false:Bool)
 else
  bB (cntM (dO p0 p1) p0.length 0 ()) λq2=>
  aft (λr=>some r) (λs3=>
   some (true:Bool)) q2
def ib (p0:(List Place)) (p1:Int) (p2:(List Int)) (v7:Int) (s1:Unit):Option (Int⊕((Unit)⊕(Unit))):=
 bB (idx p0 v7) λx16=>
 bB (bif (x16.At==p1) then
 bB (idx p0 v7) λx24=>
 bB (fS x24.Record p2) λx28=>
 some x28
 else
 some false) λp29=>
 bif p29 then
  some (.inl (v7:Int))
 else
  some (.inr (.inr ()))
def kU (p0:(List Place)) (p1:Int) (p2:(List Int)):Option (Int):=
 bB (cntM (ib p0 p1 p2) p0.length 0 ()) λq2=>
 aft (λr=>some r) (λs3=>
  some ((-1):Int)) q2
def e6 (p0:(List Int)) (v4:Int) (s1:(List Int)) (s4:Int):Option ((List Int)⊕((Int)⊕(Int))):=
 bB (bif decide (0<s4) then
 bB (idx s1 (IntKind.i64.wrap (s4-1))) λx22=>
 bB (idx p0 v4) λx26=>
 some (decide (x26<x22))
 else
 some false) λp29=>
 bif p29 then
  some (.inr (.inr ((IntKind.i64.wrap (s4-1)):Int)))
 else
  some (.inr (.inl (s4:Int)))
def eO (p0:(List Int)) (v4:Int) (s1:(List Int)):Option ((List Int)⊕(((List Int))⊕((List Int)))):=
 bB (bZ (e6 p0 v4 s1) (2 ^ 64) ((s1.length:Int):Int)) λq5=>
 aft (λr=>some (.inl r)) (λs6=>
  bB (subS s1 0 s6) λx35=>
  bB (appS 8 ([]:List Int) x35) λx36=>
  bB (idx p0 v4) λx40=>
  bB (appS 8 x36 ([x40]:List Int)) λx43=>
  bB (subS s1 s6 (s1.length:Int)) λx47=>
  bB (appS 8 x43 x47) λx48=>
  some (.inr (.inr (x48:(List Int))))) q5
def iZ (p0:(List Int)):Option ((List Int)):=
 bB (cntM (eO p0) p0.length 0 (([]:List Int):(List Int))) λq2=>
 aft (λr=>some r) (λs3=>
  some (s3:(List Int))) q2
def en (p0:(List Pair)) (p1:(List Int)) (p2:Int) (v9:Int) (s1:Int×Int):Option (Int⊕((Int×Int)⊕(Int×Int))):=
 bB (idx p1 v9) λx19=>
 bB (idx p0 x19) λx21=>
 bB (jY x21.Ask p2) λx25=>
 bB (bif x25 then
  some (v9:Int)
 else
  some (s1.1:Int)) λq4=>
 bB (idx p1 v9) λx30=>
 bB (idx p0 x30) λx32=>
 bB (jY x32.Give p2) λx36=>
 bB (bif x36 then
  some (v9:Int)
 else
  some (s1.2:Int)) λq5=>
 some (.inr (.inr (q4,q5)))
def iB (p0:(List Pair)) (p1:(List Int)) (p2:Int):Option (Int):=
 bB (cntM (en p0 p1 p2) p1.length 0 (((-1):Int),((-1):Int))) λq2=>
 aft (λr=>some r) (λs3=>
  bB (bif decide (s3.1<0) then
  some (decide (s3.2<0))
  else
  some false) λp44=>
  bif p44 then
   some (0:Int)
  else
   bif decide (s3.2<s3.1) then
    some ((IntKind.i64.wrap ((IntKind.i64.wrap (2 * s3.1))+1)):Int)
   else
    some ((IntKind.i64.wrap ((IntKind.i64.wrap (2 * s3.2))+2)):Int)) q2
def dE  (v11:Int) (s1:(List Int)):Option ((Parity×(List Place)×Bool)⊕(((List Int))⊕((List Int)))):=
 bB (appS 8 s1 ([v11]:List Int)) λx52=>
 some (.inr (.inr (x52:(List Int))))
def eI (p0:Arena) (x66:Place) (x73:(List Int)) (s7:(List Place)×(List Int)×Int):Option ((Parity×(List Place)×Bool)⊕(((List Place)×(List Int)×Int)⊕((List Place)×(List Int)×Int))):=
 bB (idx p0.Next x66.At) λx80=>
 bif decide (s7.2.2<(x80.length:Int)) then
  bB (idx p0.Next x66.At) λx90=>
  bB (idx x90 s7.2.2) λx93=>
  bB (kU s7.1 x93 x73) λx98=>
  bB (bif decide (x98<0) then
   bif decide (256<=(s7.1.length:Int)) then
    some (.inl (((⟨(⟨([]:List Int),([]:List (List Int))⟩:Arena),([]:List Int)⟩:Parity):Parity),(([]:List Place):(List Place)),false))
   else
    bB (appS 8 ([]:List Int) x73) λx111=>
    bB (appS 32 s7.1 ([(⟨x93,x111⟩:Place)]:List Place)) λx114=>
    some (.inr (x114,((s7.1.length:Int):Int)))
  else
   some (.inr (s7.1,x98)):Option ((Parity×(List Place)×Bool)⊕((List Place)×Int))) λq10=>
  aft (λr=>some (.inl r)) (λz10=>
   bB (appS 8 s7.2.1 ([z10.2]:List Int)) λx118=>
   some (.inr (.inr (z10.1,x118,((IntKind.i64.wrap (s7.2.2+1)):Int))))) q10
 else
  some (.inr (.inl (s7.1,s7.2.1,s7.2.2)))
def dF (p0:Arena) (p1:(List Pair)) (s4:(List Place)×Int×(List Int)×(List (List Int))×(List Int)):Option ((Parity×(List Place)×Bool)⊕(((List Place)×Int×(List Int)×(List (List Int))×(List Int))⊕((List Place)×Int×(List Int)×(List (List Int))×(List Int)))):=
 bif decide (s4.2.1<(s4.1.length:Int)) then
  bB (idx s4.1 s4.2.1) λx66=>
  bB (ir p1 x66.Record x66.At) λx73=>
  bB (bZ (eI p0 x66 x73) (2 ^ 64) (s4.1,(([]:List Int):(List Int)),(0:Int))) λq8=>
  aft (λr=>some (.inl r)) (λs9=>
   bB (idx p0.Owner x66.At) λx126=>
   bB (appS 8 s4.2.2.1 ([x126]:List Int)) λx129=>
   bB (iZ s9.2.1) λx136=>
   bB (appS 24 s4.2.2.2.1 ([x136]:List (List Int))) λx138=>
   bB (iB p1 x66.Record x66.At) λx148=>
   bB (appS 8 s4.2.2.2.2 ([x148]:List Int)) λx150=>
   some (.inr (.inr (s9.1,((IntKind.i64.wrap (s4.2.1+1)):Int),x129,x138,x150)))) q8
 else
  some (.inr (.inl (s4.1,s4.2.1,s4.2.2.1,s4.2.2.2.1,s4.2.2.2.2)))
def fv (p0:Arena) (p1:(List Pair)) (p2:Int):Option (Parity×(List Place)×Bool):=
 bB (jt p0) λx25=>
 bB (bif (!x25) then
 some true
 else
 bB (ju p1 (p0.Owner.length:Int)) λx30=>
 some (!x30)) λp32=>
 bB (bif p32 then
 some true
 else
 bB (dr p2 0 (IntKind.i64.wrap ((p0.Owner.length:Int)-1))) λx37=>
 some (!x37)) λp39=>
 bif p39 then
  some (((⟨(⟨([]:List Int),([]:List (List Int))⟩:Arena),([]:List Int)⟩:Parity):Parity),(([]:List Place):(List Place)),false)
 else
  bB (cntM dE p1.length 0 (([]:List Int):(List Int))) λq2=>
  aft (λr=>some r) (λs3=>
   bB (bZ (dF p0 p1) (2 ^ 64) ((([(⟨p2,s3⟩:Place)]:List Place):(List Place)),(0:Int),(([]:List Int):(List Int)),(([]:List (List Int)):(List (List Int))),(([]:List Int):(List Int)))) λq5=>
   aft (λr=>some r) (λs6=>
    some (((⟨(⟨s6.2.2.1,s6.2.2.2.1⟩:Arena),s6.2.2.2.2⟩:Parity):Parity),s6.1,true)) q5) q2
def gb (p0:Parity) (v3:Int) (s1:Unit):Option (Bool⊕((Unit)⊕(Unit))):=
 bB (idx p0.Prio v3) λx28=>
 bB (dr x28 0 40) λx30=>
 bif (!x30) then
  some (.inl (false:Bool))
 else
  some (.inr (.inr ()))
def iG (p0:Parity):Option (Bool):=
 bB (jt p0.Arena) λx6=>
 bB (bif (!x6) then
 some true
 else
 some ((p0.Prio.length:Int) !=(p0.Arena.Owner.length:Int))) λp17=>
 bif p17 then
  some (false:Bool)
 else
  bB (cntM (gb p0) p0.Prio.length 0 ()) λq2=>
  aft (λr=>some r) (λs3=>
   some (true:Bool)) q2
def jf  (v4:Int) (s1:(List Int)):Option ((List Int)⊕(((List Int))⊕((List Int)))):=
 bB (appS 8 s1 ([(-1)]:List Int)) λx13=>
 some (.inr (.inr (x13:(List Int))))
def lN (p0:Int):Option ((List Int)):=
 bB (rng p0) λ_=>
 bB (cntM jf (xh (p0-0)) 0 (([]:List Int):(List Int))) λq2=>
 aft (λr=>some r) (λs3=>
  some (s3:(List Int))) q2
def lC (p0:(List Int)) (p1:Int) (v5:Int) (s1:Unit):Option (Bool⊕((Unit)⊕(Unit))):=
 bB (idx p0 v5) λx14=>
 bif (x14==p1) then
  some (.inl (true:Bool))
 else
  some (.inr (.inr ()))
def nS (p0:(List Int)) (p1:Int):Option (Bool):=
 bB (cntM (lC p0 p1) p0.length 0 ()) λq2=>
 aft (λr=>some r) (λs3=>
  some (false:Bool)) q2
def gX (p0:Parity) (p1:(List Int)) (v5:Int) (s1:Unit):Option (Bool⊕((Unit)⊕(Unit))):=
 bB (idx p1 v5) λx20=>
 bB (bif (x20 !=(-1)) then
 bB (idx p1 v5) λx32=>
 bB (idx p0.Arena.Next v5) λx28=>
 bB (nS x28 x32) λx34=>
 some (!x34)
 else
 some false) λp36=>
 bif p36 then
  some (.inl (false:Bool))
 else
  some (.inr (.inr ()))
def kG (p0:Parity) (p1:(List Int)):Option (Bool):=
 bif ((p1.length:Int) !=(p0.Prio.length:Int)) then
  some (false:Bool)
 else
  bB (cntM (gX p0 p1) p1.length 0 ()) λq2=>
  aft (λr=>some r) (λs3=>
   some (true:Bool)) q2
def iK (p0:Parity) (p1:(List Int)) (v7:Int) (s1:(List (List Int))):Option ((Parity×Bool)⊕(((List (List Int)))⊕((List (List Int))))):=
 bB (idx p0.Arena.Next v7) λx38=>
 bB (dz x38) λx40=>
 bB (idx p1 v7) λx43=>
 bB (bif decide (0<=x43) then
  bB (idx p1 v7) λx48=>
  some (([x48]:List Int):(List Int))
 else
  some (x40:(List Int))) λq4=>
 bB (appS 24 s1 ([q4]:List (List Int))) λx56=>
 some (.inr (.inr (x56:(List (List Int)))))
def mc (p0:Parity) (p1:(List Int)):Option (Parity×Bool):=
 bB (iG p0) λx10=>
 bB (bif (!x10) then
 some true
 else
 bB (kG p0 p1) λx15=>
 some (!x15)) λp17=>
 bif p17 then
  some (((⟨(⟨([]:List Int),([]:List (List Int))⟩:Arena),([]:List Int)⟩:Parity):Parity),false)
 else
  bB (dz p0.Arena.Owner) λx22=>
  bB (dz p0.Prio) λx26=>
  bB (cntM (iK p0 p1) p1.length 0 (((⟨(⟨x22,([]:List (List Int))⟩:Arena),x26⟩:Parity).Arena).Next:(List (List Int)))) λq2=>
  aft (λr=>some r) (λs3=>
   some (((⟨(⟨((⟨(⟨x22,([]:List (List Int))⟩:Arena),x26⟩:Parity).Arena).Owner,s3⟩:Arena),(⟨(⟨x22,([]:List (List Int))⟩:Arena),x26⟩:Parity).Prio⟩:Parity):Parity),true)) q2
def kK (p0:Parity) (v5:Int) (s4:Int×(List (List Int))):Option (l7Game⊕((Int×(List (List Int)))⊕(Int×(List (List Int))))):=
 bB (idx p0.Arena.Next v5) λx38=>
 bif decide (s4.1<(x38.length:Int)) then
  bB (idx p0.Arena.Next v5) λx48=>
  bB (idx x48 s4.1) λx51=>
  bB (idx s4.2 x51) λx59=>
  bB (appS 8 x59 ([v5]:List Int)) λx63=>
  bB (idx s4.2 x51) λx64=>
  bB (setI s4.2 x51 (x63:(List Int))) λy178=>
  some (.inr (.inr (((IntKind.i64.wrap (s4.1+1)):Int),y178)))
 else
  some (.inr (.inl (s4.1,s4.2)))
def kM (p0:Parity) (v5:Int) (s1:(List (List Int))×(List Int)):Option (l7Game⊕(((List (List Int))×(List Int))⊕((List (List Int))×(List Int)))):=
 bB (idx s1.2 v5) λx32=>
 bB (setI s1.2 v5 (-1)) λy176=>
 bB (bZ (kK p0 v5) (2 ^ 64) ((0:Int),s1.1)) λq5=>
 aft (λr=>some (.inl r)) (λs6=>
  some (.inr (.inr (s6.2,y176)))) q5
def nI (p0:Parity):Option (l7Game):=
 bB (mkS 24 (p0.Prio.length:Int) (([]:List Int):(List Int))) λx20=>
 bB (mkS 8 (p0.Prio.length:Int) (0:Int)) λx22=>
 bB (cntM (kM p0) p0.Prio.length 0 (((⟨p0.Arena.Owner,p0.Prio,p0.Arena.Next,x20,x22⟩:l7Game).prev:(List (List Int))),((⟨p0.Arena.Owner,p0.Prio,p0.Arena.Next,x20,x22⟩:l7Game).pick:(List Int)))) λq2=>
 aft (λr=>some r) (λs3=>
  some ((⟨(⟨p0.Arena.Owner,p0.Prio,p0.Arena.Next,x20,x22⟩:l7Game).owner,(⟨p0.Arena.Owner,p0.Prio,p0.Arena.Next,x20,x22⟩:l7Game).prio,(⟨p0.Arena.Owner,p0.Prio,p0.Arena.Next,x20,x22⟩:l7Game).next,s3.1,s3.2⟩:l7Game):l7Game)) q2
def jC  (v4:Int) (s1:(List Bool)):Option ((List Bool)⊕(((List Bool))⊕((List Bool)))):=
 bB (idx s1 v4) λx14=>
 bB (setI s1 v4 true) λy181=>
 some (.inr (.inr (y181:(List Bool))))
def mX (p0:Int):Option ((List Bool)):=
 bB (mkS 1 p0 (false:Bool)) λx6=>
 bB (rng p0) λ_=>
 bB (cntM jC (xh (p0-0)) 0 (x6:(List Bool))) λq2=>
 aft (λr=>some r) (λs3=>
  some (s3:(List Bool))) q2
def jK (p0:l7Game) (p1:(List Bool)) (v6:Int) (s1:Int):Option (Int⊕((Int)⊕(Int))):=
 bB (idx p1 v6) λx15=>
 bB (bif x15 then
  bB (idx p0.prio v6) λx21=>
  bB (jp s1 x21) λx23=>
  some (x23:Int)
 else
  some (s1:Int)) λq4=>
 some (.inr (.inr (q4:Int)))
def m9 (p0:l7Game) (p1:(List Bool)):Option (Int):=
 bB (cntM (jK p0 p1) p1.length 0 ((-1):Int)) λq2=>
 aft (λr=>some r) (λs3=>
  some (s3:Int)) q2
def kB (p0:l7Game) (p1:Int) (p2:Int):Option (Bool):=
 bB (idx p0.pick p1) λx10=>
 bB (bif decide (x10<0) then
 some true
 else
 bB (idx p0.pick p1) λx17=>
 some (x17==p2)) λp21=>
 some (p21:Bool)
def gf (p0:l7Game) (p1:(List Bool)) (p2:Int) (s1:Int×Int):Option (Int⊕((Int×Int)⊕(Int×Int))):=
 bB (idx p0.next p2) λx14=>
 bif decide (s1.2<(x14.length:Int)) then
  bB (idx p0.next p2) λx23=>
  bB (idx x23 s1.2) λx26=>
  bB (idx p1 x26) λx30=>
  bB (bif x30 then
  bB (kB p0 p2 x26) λx36=>
  some x36
  else
  some false) λp37=>
  bB (bif p37 then
   some ((IntKind.i64.wrap (s1.1+1)):Int)
  else
   some (s1.1:Int)) λq4=>
  some (.inr (.inr (q4,((IntKind.i64.wrap (s1.2+1)):Int))))
 else
  some (.inr (.inl (s1.1,s1.2)))
def j4 (p0:l7Game) (p1:(List Bool)) (p2:Int):Option (Int):=
 bB (bZ (gf p0 p1 p2) (2 ^ 64) ((0:Int),(0:Int))) λq2=>
 aft (λr=>some r) (λs3=>
  some (s3.1:Int)) q2
def dV (p0:l7Game) (p1:(List Bool)) (p3:(List Bool)) (v12:Int) (s1:(List Int)×(List Bool)×(List Int)):Option ((List Bool)⊕(((List Int)×(List Bool)×(List Int))⊕((List Int)×(List Bool)×(List Int)))):=
 bB (idx p1 v12) λx32=>
 bB (bif x32 then
  bB (j4 p0 p1 v12) λx39=>
  bB (idx s1.2.2 v12) λx40=>
  bB (setI s1.2.2 v12 x39) λy194=>
  some (y194:(List Int))
 else
  some (s1.2.2:(List Int))) λq4=>
 bB (idx p1 v12) λx43=>
 bB (bif x43 then
 bB (idx p3 v12) λx48=>
 some x48
 else
 some false) λp50=>
 bB (bif p50 then
  bB (idx s1.2.1 v12) λx53=>
  bB (setI s1.2.1 v12 true) λy195=>
  bB (appS 8 s1.1 ([v12]:List Int)) λx57=>
  some (x57,y195)
 else
  some (s1.1,s1.2.1)) λq5=>
 some (.inr (.inr (q5.1,q5.2,q4)))
def dj (p0:l7Game) (p1:(List Bool)) (p2:Int) (x66:Int) (s9:(List Int)×Int×(List Bool)×(List Int)):Option ((List Bool)⊕(((List Int)×Int×(List Bool)×(List Int))⊕((List Int)×Int×(List Bool)×(List Int)))):=
 bB (idx p0.prev x66) λx72=>
 bif decide (s9.2.1<(x72.length:Int)) then
  bB (idx p0.prev x66) λx81=>
  bB (idx x81 s9.2.1) λx84=>
  bB (idx p1 x84) λx88=>
  bB (bif (!x88) then
  some true
  else
  bB (idx s9.2.2.1 x84) λx94=>
  some x94) λp96=>
  bB (bif p96 then
  some true
  else
  bB (kB p0 x84 x66) λx101=>
  some (!x101)) λp103=>
  bif p103 then
   some (.inr (.inr (s9.1,((IntKind.i64.wrap (s9.2.1+1)):Int),s9.2.2.1,s9.2.2.2)))
  else
   bB (idx s9.2.2.2 x84) λx106=>
   bB (idx s9.2.2.2 x84) λx109=>
   bB (setI s9.2.2.2 x84 (IntKind.i64.wrap (x106-1))) λy198=>
   bB (idx p0.owner x84) λx113=>
   bB (bif (x113==p2) then
   some true
   else
   bB (idx y198 x84) λx120=>
   some (x120==0)) λp123=>
   bB (bif p123 then
    bB (idx s9.2.2.1 x84) λx126=>
    bB (setI s9.2.2.1 x84 true) λy199=>
    bB (appS 8 s9.1 ([x84]:List Int)) λx130=>
    some (x130,y199)
   else
    some (s9.1,s9.2.2.1)) λq12=>
   some (.inr (.inr (q12.1,((IntKind.i64.wrap (s9.2.1+1)):Int),q12.2,y198)))
 else
  some (.inr (.inl (s9.1,s9.2.1,s9.2.2.1,s9.2.2.2)))
def fg (p0:l7Game) (p1:(List Bool)) (p2:Int) (s6:(List Int)×Int×(List Bool)×(List Int)):Option ((List Bool)⊕(((List Int)×Int×(List Bool)×(List Int))⊕((List Int)×Int×(List Bool)×(List Int)))):=
 bif decide (s6.2.1<(s6.1.length:Int)) then
  bB (idx s6.1 s6.2.1) λx66=>
  bB (bZ (dj p0 p1 p2 x66) (2 ^ 64) (s6.1,(0:Int),s6.2.2.1,s6.2.2.2)) λq10=>
  aft (λr=>some (.inl r)) (λs11=>
   some (.inr (.inr (s11.1,((IntKind.i64.wrap (s6.2.1+1)):Int),s11.2.2.1,s11.2.2.2)))) q10
 else
  some (.inr (.inl (s6.1,s6.2.1,s6.2.2.1,s6.2.2.2)))
def gw (p0:l7Game) (p1:(List Bool)) (p2:Int) (p3:(List Bool)):Option ((List Bool)):=
 bB (mkS 1 (p1.length:Int) (false:Bool)) λx19=>
 bB (mkS 8 (p1.length:Int) (0:Int)) λx22=>
 bB (cntM (dV p0 p1 p3) p1.length 0 ((([]:List Int):(List Int)),x19,x22)) λq2=>
 aft (λr=>some r) (λs3=>
  bB (bZ (fg p0 p1 p2) (2 ^ 64) (s3.1,(0:Int),s3.2.1,s3.2.2)) λq7=>
  aft (λr=>some r) (λs8=>
   some (s8.2.2.1:(List Bool))) q7) q2
def jb (p0:(List Bool)) (p1:(List Bool)) (v6:Int) (s1:(List Bool)):Option ((List Bool)⊕(((List Bool))⊕((List Bool)))):=
 bB (idx p0 v6) λx20=>
 bB (bif x20 then
 bB (idx p1 v6) λx25=>
 some (!x25)
 else
 some false) λp28=>
 bB (idx s1 v6) λx29=>
 bB (setI s1 v6 p28) λy203=>
 some (.inr (.inr (y203:(List Bool))))
def kx (p0:(List Bool)) (p1:(List Bool)):Option ((List Bool)):=
 bB (mkS 1 (p0.length:Int) (false:Bool)) λx9=>
 bB (cntM (jb p0 p1) p0.length 0 (x9:(List Bool))) λq2=>
 aft (λr=>some r) (λs3=>
  some (s3:(List Bool))) q2
def jG (p0:l7Game) (p1:(List Bool)) (x21:Int) (v9:Int) (s1:(List Bool)):Option ((List Bool)⊕(((List Bool))⊕((List Bool)))):=
 bB (idx p1 v9) λx43=>
 bB (bif x43 then
 bB (idx p0.prio v9) λx49=>
 some (x49==x21)
 else
 some false) λp53=>
 bB (idx s1 v9) λx54=>
 bB (setI s1 v9 p53) λy187=>
 some (.inr (.inr (y187:(List Bool))))
def iy (x21:Int) (x61:(List Bool)) (x64:(List Bool)) (v14:Int) (s4:Bool×(List Bool)):Option ((List Bool)⊕((Bool×(List Bool))⊕(Bool×(List Bool)))):=
 bB (idx x61 v14) λx78=>
 bB (bif x78 then
 bB (idx x64 v14) λx83=>
 some (x83 !=((Int.tmod x21 2)==0))
 else
 some false) λp88=>
 bB (idx s4.2 v14) λx89=>
 bB (setI s4.2 v14 p88) λy206=>
 bB (bif s4.1 then
 some true
 else
 bB (idx y206 v14) λx94=>
 some x94) λp96=>
 some (.inr (.inr (p96,y206)))
def jF (p1:(List Bool)) (x21:Int) (v15:Int) (s7:(List Bool)):Option ((List Bool)⊕(((List Bool))⊕((List Bool)))):=
 bB (idx p1 v15) λx109=>
 bB (bif x109 then
 some ((Int.tmod x21 2)==0)
 else
 some false) λp114=>
 bB (idx s7 v15) λx115=>
 bB (setI s7 v15 p114) λy207=>
 some (.inr (.inr (y207:(List Bool))))
def jI (x21:Int) (x122:(List Bool)) (x127:(List Bool)) (v18:Int) (s10:(List Bool)):Option ((List Bool)⊕(((List Bool))⊕((List Bool)))):=
 bB (idx x127 v18) λx138=>
 bB (bif x138 then
 some true
 else
 bB (idx x122 v18) λx143=>
 bB (bif x143 then
 some ((Int.tmod x21 2)==1)
 else
 some false) λp148=>
 some p148) λp149=>
 bB (idx s10 v18) λx150=>
 bB (setI s10 v18 p149) λy211=>
 some (.inr (.inr (y211:(List Bool))))
def ip (rc:l7Game->(List Bool)->Option ((List Bool))) (p0:l7Game) (p1:(List Bool)):Option ((List Bool)):=
 bB (m9 p0 p1) λx21=>
 bB (mkS 1 (p1.length:Int) (false:Bool)) λx24=>
 bif decide (x21<0) then
  some (x24:(List Bool))
 else
  bB (mkS 1 (p1.length:Int) (false:Bool)) λx32=>
  bB (cntM (jG p0 p1 x21) p1.length 0 (x32:(List Bool))) λq2=>
  aft (λr=>some r) (λs3=>
   bB (gw p0 p1 (Int.tmod x21 2) s3) λx60=>
   bB (kx p1 x60) λx61=>
   bB (rc p0 x61) λx64=>
   bB (mkS 1 (p1.length:Int) (false:Bool)) λx67=>
   bB (cntM (iy x21 x61 x64) p1.length 0 (false,x67)) λq5=>
   aft (λr=>some r) (λs6=>
    bif (!s6.1) then
     bB (cntM (jF p1 x21) p1.length 0 (x24:(List Bool))) λq8=>
     aft (λr=>some r) (λs9=>
      some (s9:(List Bool))) q8
    else
     bB (gw p0 p1 (IntKind.i64.wrap (1-(Int.tmod x21 2))) s6.2) λx122=>
     bB (kx p1 x122) λx126=>
     bB (rc p0 x126) λx127=>
     bB (cntM (jI x21 x122 x127) p1.length 0 (x24:(List Bool))) λq11=>
     aft (λr=>some r) (λs12=>
      some (s12:(List Bool))) q11) q5) q2
def km:Nat->l7Game->(List Bool)->Option ((List Bool))
 | 0=>λ_ _=>none
 | n+1=>ip (km n)
def jL (x12:(List Bool)) (v5:Int) (s1:(List Int)):Option ((List Int)⊕(((List Int))⊕((List Int)))):=
 bB (idx x12 v5) λx23=>
 bB (g7 x23) λx25=>
 bB (appS 8 s1 ([(IntKind.i64.wrap (1-x25))]:List Int)) λx28=>
 some (.inr (.inr (x28:(List Int))))
def gE (p0:Parity):Option ((List Int)):=
 bB (nI p0) λx7=>
 bB (mX (p0.Prio.length:Int)) λx11=>
 bB (km (2 ^ 64) x7 x11) λx12=>
 bB (cntM (jL x12) x12.length 0 (([]:List Int):(List Int))) λq2=>
 aft (λr=>some r) (λs3=>
  some (s3:(List Int))) q2
def iY (p0:(List Int)) (p1:(List Int)) (v5:Int) (s1:Unit):Option (Bool⊕((Unit)⊕(Unit))):=
 bB (idx p0 v5) λx19=>
 bB (idx p1 v5) λx23=>
 bif (x19 !=x23) then
  some (.inl (false:Bool))
 else
  some (.inr (.inr ()))
def l9 (p0:(List Int)) (p1:(List Int)):Option (Bool):=
 bif ((p0.length:Int) !=(p1.length:Int)) then
  some (false:Bool)
 else
  bB (cntM (iY p0 p1) p0.length 0 ()) λq2=>
  aft (λr=>some r) (λs3=>
   some (true:Bool)) q2
def jR (p0:Parity) (p1:(List Int)):Option (Bool):=
 bB (mc p0 p1) λx10=>
 bB (bif x10.2 then
 bB (gE x10.1) λx16=>
 bB (gE p0) λx18=>
 bB (l9 x16 x18) λx19=>
 some x19
 else
 some false) λp20=>
 some (p20:Bool)
def gh (p0:(List Int)) (p1:Int) (v6:Int) (s1:(List Bool)):Option ((List Bool)⊕(((List Bool))⊕((List Bool)))):=
 bB (idx p0 v6) λx20=>
 bB (idx s1 v6) λx24=>
 bB (setI s1 v6 (x20==p1)) λy222=>
 some (.inr (.inr (y222:(List Bool))))
def eS (p0:(List Int)) (p1:Int):Option ((List Bool)):=
 bB (mkS 1 (p0.length:Int) (false:Bool)) λx9=>
 bB (cntM (gh p0 p1) p0.length 0 (x9:(List Bool))) λq2=>
 aft (λr=>some r) (λs3=>
  some (s3:(List Bool))) q2
def gF (p1:(List Bool)) (p2:Int) (x11:(List Bool)) (v8:Int) (s1:Unit):Option (Bool⊕((Unit)⊕(Unit))):=
 bB (idx p1 v8) λx20=>
 bB (bif x20 then
 bB (idx x11 v8) λx25=>
 some (x25 !=(p2==0))
 else
 some false) λp30=>
 bif p30 then
  some (.inl (false:Bool))
 else
  some (.inr (.inr ()))
def kT (p0:l7Game) (p1:(List Bool)) (p2:Int):Option (Bool):=
 bB (km (2 ^ 64) p0 p1) λx11=>
 bB (cntM (gF p1 p2 x11) p1.length 0 ()) λq2=>
 aft (λr=>some r) (λs3=>
  some (true:Bool)) q2
def je (p0:l7Game) (p1:(List Bool)) (p2:Int) (s1:Int×(List Int)):Option ((Int×(List Int))⊕((Int×(List Int))⊕(Int×(List Int)))):=
 bB (idx p0.next p2) λx13=>
 bif decide (s1.1<(x13.length:Int)) then
  bB (idx p0.next p2) λx22=>
  bB (idx x22 s1.1) λx25=>
  bB (idx p1 x25) λx29=>
  bif (!x29) then
   some (.inr (.inr (((IntKind.i64.wrap (s1.1+1)):Int),s1.2)))
  else
   bB (idx s1.2 p2) λx36=>
   bB (setI s1.2 p2 x25) λy225=>
   bB (idx p0.owner p2) λx42=>
   bB (kT (⟨p0.owner,p0.prio,p0.next,p0.prev,y225⟩:l7Game) p1 x42) λx44=>
   bif x44 then
    some (.inl (x25,y225))
   else
    some (.inr (.inr (((IntKind.i64.wrap (s1.1+1)):Int),y225)))
 else
  some (.inr (.inl (s1.1,s1.2)))
def lT (p0:l7Game) (p1:(List Bool)) (p2:Int):Option (Int×(List Int)):=
 bB (bZ (je p0 p1 p2) (2 ^ 64) ((0:Int),p0.pick)) λq2=>
 aft (λr=>some r) (λs3=>
  some (((-1):Int),s3.2)) q2
def gi (p0:Parity) (p1:(List Int)) (x19:(List Int)) (v8:Int) (s1:(List Int)):Option ((Answer×Bool)⊕(((List Int))⊕((List Int)))):=
 bB (idx p1 v8) λx30=>
 bB (bif (x30 !=(-1)) then
 bB (idx x19 v8) λx36=>
 bB (idx p0.Arena.Owner v8) λx42=>
 some (x36 !=x42)
 else
 some false) λp45=>
 bif p45 then
  some (.inl (((⟨([]:List Int),([]:List Int)⟩:Answer):Answer),false))
 else
  bB (idx p1 v8) λx52=>
  bB (idx s1 v8) λx54=>
  bB (setI s1 v8 x52) λy219=>
  some (.inr (.inr (y219:(List Int))))
def gk (p0:Parity) (x19:(List Int)) (x21:l7Game) (x56:(List Bool)) (x58:(List Bool)) (v11:Int) (s4:(List Int)):Option ((Answer×Bool)⊕(((List Int))⊕((List Int)))):=
 bB (idx s4 v11) λx68=>
 bB (bif decide (0<=x68) then
 some true
 else
 bB (idx x19 v11) λx74=>
 bB (idx p0.Arena.Owner v11) λx80=>
 some (x74 !=x80)) λp83=>
 bif p83 then
  some (.inr (.inr (s4:(List Int))))
 else
  bB (idx x19 v11) λx87=>
  bB (bif (x87==1) then
   some (x58:(List Bool))
  else
   some (x56:(List Bool))) λq7=>
  bB (lT (⟨x21.owner,x21.prio,x21.next,x21.prev,s4⟩:l7Game) q7 v11) λx97=>
  bB (idx x97.2 v11) λx98=>
  bB (setI x97.2 v11 x97.1) λy228=>
  some (.inr (.inr (y228:(List Int))))
def jy (p0:Parity) (p1:(List Int)):Option (Answer×Bool):=
 bB (jR p0 p1) λx15=>
 bif (!x15) then
  some (((⟨([]:List Int),([]:List Int)⟩:Answer):Answer),false)
 else
  bB (gE p0) λx19=>
  bB (nI p0) λx21=>
  bB (cntM (gi p0 p1 x19) p1.length 0 (x21.pick:(List Int))) λq2=>
  aft (λr=>some r) (λs3=>
   bB (eS x19 0) λx56=>
   bB (eS x19 1) λx58=>
   bB (cntM (gk p0 x19 x21 x56 x58) x19.length 0 (s3:(List Int))) λq5=>
   aft (λr=>some r) (λs6=>
    some (((⟨x19,s6⟩:Answer):Answer),true)) q5) q2
def kP (p0:Parity):Option (Answer):=
 bB (iG p0) λx6=>
 bif (!x6) then
  some ((⟨([]:List Int),([]:List Int)⟩:Answer):Answer)
 else
  bB (lN (p0.Prio.length:Int)) λx14=>
  bB (jy p0 x14) λx15=>
  some (x15.1:Answer)
def nt (p0:Sig):Option (Int):=
 bB (cZ p0.In) λx5=>
 some (x5:Int)
def jO (p0:Sig) (p1:Det) (p2:Int) (p3:Int):Option (Int):=
 bB (js p0 p1) λx15=>
 bB (bif (!x15) then
 some true
 else
 bB (dr p2 0 (IntKind.i64.wrap ((p1.Next.length:Int)-1))) λx21=>
 some (!x21)) λp23=>
 bB (bif p23 then
 some true
 else
 bB (df p0) λx27=>
 bB (dr p3 (-1) (IntKind.i64.wrap (x27-1))) λx29=>
 some (!x29)) λp31=>
 bif p31 then
  some ((-1):Int)
 else
  bif (p3==(-1)) then
   some (p2:Int)
  else
   bB (df p0) λx38=>
   some ((IntKind.i64.wrap ((IntKind.i64.wrap ((p1.Next.length:Int)+(IntKind.i64.wrap (p2 * x38))))+p3)):Int)
def jV (p0:Parity) (p1:(List Place)) (p2:Int) (p3:Int) (s1:Int):Option (Int⊕((Int)⊕(Int))):=
 bB (idx p0.Arena.Next p2) λx16=>
 bif decide (s1<(x16.length:Int)) then
  bB (idx p0.Arena.Next p2) λx26=>
  bB (idx x26 s1) λx29=>
  bB (idx p1 x29) λx33=>
  bif (x33.At==p3) then
   some (.inl (x29:Int))
  else
   some (.inr (.inr ((IntKind.i64.wrap (s1+1)):Int)))
 else
  some (.inr (.inl (s1:Int)))
def nv (p0:Parity) (p1:(List Place)) (p2:Int) (p3:Int):Option (Int):=
 bB (bZ (jV p0 p1 p2 p3) (2 ^ 64) (0:Int)) λq2=>
 aft (λr=>some r) (λs3=>
  some ((-1):Int)) q2
def gW (p0:(List Int)) (p1:Int) (v5:Int) (s1:Unit):Option (Int⊕((Unit)⊕(Unit))):=
 bB (idx p0 v5) λx14=>
 bif (x14==p1) then
  some (.inl (v5:Int))
 else
  some (.inr (.inr ()))
def jw (p0:(List Int)) (p1:Int):Option (Int):=
 bB (cntM (gW p0 p1) p0.length 0 ()) λq2=>
 aft (λr=>some r) (λs3=>
  some ((-1):Int)) q2
def fx (p0:Sig) (p1:Det) (p2:Int) (p3:Int) (p4:Int) (s1:(List Int)×Int):Option ((List Int)⊕(((List Int)×Int)⊕((List Int)×Int))):=
 bB (cZ p0.Out) λx39=>
 bif decide (s1.2<x39) then
  bB (idx p1.Next p2) λx46=>
  bB (iv p0 p3 s1.2) λx51=>
  bB (idx x46 x51) λx52=>
  bB (bif (x52==p4) then
   bB (appS 8 s1.1 ([s1.2]:List Int)) λx59=>
   some (x59:(List Int))
  else
   some (s1.1:(List Int))) λq4=>
  some (.inr (.inr (q4,((IntKind.i64.wrap (s1.2+1)):Int))))
 else
  some (.inr (.inl (s1.1,s1.2)))
def iQ (p0:Sig) (p1:Det) (p2:Int) (p3:Int) (p4:Int):Option ((List Int)):=
 bB (js p0 p1) λx16=>
 bB (bif (!x16) then
 some true
 else
 bB (dr p2 0 (IntKind.i64.wrap ((p1.Next.length:Int)-1))) λx24=>
 some (!x24)) λp26=>
 bB (bif p26 then
 some true
 else
 bB (df p0) λx30=>
 bB (dr p3 0 (IntKind.i64.wrap (x30-1))) λx32=>
 some (!x32)) λp34=>
 bif p34 then
  some (([]:List Int):(List Int))
 else
  bB (bZ (fx p0 p1 p2 p3 p4) (2 ^ 64) ((([]:List Int):(List Int)),(0:Int))) λq2=>
  aft (λr=>some r) (λs3=>
   some (s3.1:(List Int))) q2
def er (p0:Sig) (p1:Det) (p2:Parity) (p3:(List Place)) (p4:(List Int)) (s1:(List Int)×Int×(List (List Int))×(List (List Int))) (x33:Place) (s4:(List Int)×(List Int)×(List Int)×Int):Option ((Machine×Bool)⊕(((List Int)×(List Int)×(List Int)×Int)⊕((List Int)×(List Int)×(List Int)×Int))):=
 bB (nt p0) λx40=>
 bif decide (s4.2.2.2<x40) then
  bB (idx s4.1 s1.2.1) λx49=>
  bB (jO p0 p1 x33.At s4.2.2.2) λx55=>
  bB (nv p2 p3 x49 x55) λx56=>
  bB (idx p4 x56) λx57=>
  bB (jw s4.1 x57) λx61=>
  bB (bif decide (x61<0) then
   bB (appS 8 s4.1 ([x57]:List Int)) λx66=>
   some (x66:(List Int))
  else
   some (s4.1:(List Int))) λq7=>
  bB (jw q7 x57) λx70=>
  bB (appS 8 s4.2.1 ([x70]:List Int)) λx72=>
  bB (idx p3 x57) λx80=>
  bB (iQ p0 p1 x33.At s4.2.2.2 x80.At) λx83=>
  bB (idx x83 0) λx84=>
  bB (appS 8 s4.2.2.1 ([x84]:List Int)) λx87=>
  some (.inr (.inr (q7,x72,x87,((IntKind.i64.wrap (s4.2.2.2+1)):Int))))
 else
  some (.inr (.inl (s4.1,s4.2.1,s4.2.2.1,s4.2.2.2)))
def fE (p0:Sig) (p1:Det) (p2:Parity) (p3:(List Place)) (p4:(List Int)) (s1:(List Int)×Int×(List (List Int))×(List (List Int))):Option ((Machine×Bool)⊕(((List Int)×Int×(List (List Int))×(List (List Int)))⊕((List Int)×Int×(List (List Int))×(List (List Int))))):=
 bif decide (s1.2.1<(s1.1.length:Int)) then
  bB (idx s1.1 s1.2.1) λx31=>
  bB (idx p3 x31) λx33=>
  bB (bZ (er p0 p1 p2 p3 p4 s1 x33) (2 ^ 64) (s1.1,(([]:List Int):(List Int)),(([]:List Int):(List Int)),(0:Int))) λq5=>
  aft (λr=>some (.inl r)) (λs6=>
   bif decide (48<(s6.1.length:Int)) then
    some (.inl (((⟨([]:List (List Int)),([]:List (List Int))⟩:Machine):Machine),false))
   else
    bB (appS 24 s1.2.2.1 ([s6.2.1]:List (List Int))) λx96=>
    bB (appS 24 s1.2.2.2 ([s6.2.2.1]:List (List Int))) λx102=>
    some (.inr (.inr (s6.1,((IntKind.i64.wrap (s1.2.1+1)):Int),x96,x102)))) q5
 else
  some (.inr (.inl (s1.1,s1.2.1,s1.2.2.1,s1.2.2.2)))
def kD (p0:Sig) (p1:Det) (p2:Parity) (p3:(List Place)) (p4:(List Int)):Option (Machine×Bool):=
 bB (bZ (fE p0 p1 p2 p3 p4) (2 ^ 64) ((([0]:List Int):(List Int)),(0:Int),(([]:List (List Int)):(List (List Int))),(([]:List (List Int)):(List (List Int))))) λq2=>
 aft (λr=>some r) (λs3=>
  some (((⟨s3.2.2.1,s3.2.2.2⟩:Machine):Machine),true)) q2
def fl (p0:Sig) (p1:(List Clause)):Option (Machine×Bool):=
 bB (ed p0 p1) λx18=>
 bif (!x18.2) then
  some (((⟨([]:List (List Int)),([]:List (List Int))⟩:Machine):Machine),false)
 else
  bB (eV p0 x18.1) λx27=>
  bif (!x27.2.2) then
   some (((⟨([]:List (List Int)),([]:List (List Int))⟩:Machine):Machine),false)
  else
   bB (fv x27.1 x27.2.1 0) λx37=>
   bif (!x37.2.2) then
    some (((⟨([]:List (List Int)),([]:List (List Int))⟩:Machine):Machine),false)
   else
    bB (kP x37.1) λx45=>
    bB (idx x45.Won 0) λx48=>
    bif (x48 !=0) then
     some (((⟨([]:List (List Int)),([]:List (List Int))⟩:Machine):Machine),false)
    else
     bB (kD p0 x18.1 x37.1 x37.2.1 x45.Plan) λx58=>
     some (x58.1,x58.2)
def mh (p0:Sig):Option (Bool):=
 bB (bif decide (1<=p0.In) then
 some (decide (p0.In<=2))
 else
 some false) λp10=>
 bB (bif p10 then
 some (decide (1<=p0.Out))
 else
 some false) λp15=>
 bB (bif p15 then
 some (decide (p0.Out<=2))
 else
 some false) λp20=>
 some (p20:Bool)
def cS (p0:Sig):Option (Int):=
 bB (nn (IntKind.i64.wrap (p0.In+p0.Out))) λ_z8=>
 some ((IntKind.i64.wrap (1 * 2 ^ (min (xh (IntKind.i64.wrap (p0.In+p0.Out))) (IntKind.bits IntKind.i64)))):Int)
def jZ (p0:(List Int)) (p1:Int) (v9:Int) (s1:Unit):Option (Bool⊕((Unit)⊕(Unit))):=
 bB (idx p0 v9) λx12=>
 bB (bif decide (x12<0) then
 some true
 else
 some (decide (p1<=x12))) λp20=>
 bB (bif p20 then
 some true
 else
 bB (bif decide (0<v9) then
 bB (idx p0 (IntKind.i64.wrap (v9-1))) λx29=>
 some (decide (x12<=x29))
 else
 some false) λp32=>
 some p32) λp33=>
 bif p33 then
  some (.inl (false:Bool))
 else
  some (.inr (.inr ()))
def jn (p0:(List Int)) (p1:Int):Option (Bool):=
 bB (cntM (jZ p0 p1) p0.length 0 ()) λq2=>
 aft (λr=>some r) (λs3=>
  some (true:Bool)) q2
def ki (p0:Int):Option (Bool):=
 bB (bif (p0==2) then
 some true
 else
 some (p0==3)) λp8=>
 bB (bif p8 then
 some true
 else
 some (p0==7)) λp12=>
 some (p12:Bool)
def jz (p0:Sig) (p1:Clause):Option (Bool):=
 bB (bif decide (p1.Kind<1) then
 some true
 else
 some (decide (7<p1.Kind))) λp12=>
 bB (bif p12 then
 some true
 else
 bB (cS p0) λx17=>
 bB (jn p1.A x17) λx18=>
 some (!x18)) λp20=>
 bB (bif p20 then
 some true
 else
 bB (cS p0) λx25=>
 bB (jn p1.B x25) λx26=>
 some (!x26)) λp28=>
 bif p28 then
  some (false:Bool)
 else
  bB (ki p1.Kind) λx31=>
  bB (bif x31 then
  some true
  else
  some ((p1.B.length:Int)==0)) λp37=>
  some (p37:Bool)
def dS (p0:Clause) (c0:Sig):Option (Bool):=
 bB (jz c0 p0) λx6=>
 some ((!x6):Bool)
def bR (p0:(List Clause)) (c1_0:Sig) (v8:Int) (s1:Unit):Option (Int⊕((Unit)⊕(Unit))):=
 bB (idx p0 v8) λx14=>
 bB (dS x14 c1_0) λx16=>
 bif x16 then
  some (.inl (v8:Int))
 else
  some (.inr (.inr ()))
def bU (p0:(List Clause)) (c1_0:Sig):Option (Int):=
 bB (cntM (bR p0 c1_0) p0.length 0 ()) λq2=>
 aft (λr=>some r) (λs3=>
  some ((-1):Int)) q2
def bS (p0:(List Clause)) (c1_0:Sig):Option (Bool):=
 bB (bU p0 c1_0) λx7=>
 some (decide (0<=x7):Bool)
def gK (p0:Sig) (p1:(List Clause)):Option (Bool):=
 bB (bif decide ((p1.length:Int)<=3) then
 bB (bS p1 p0) λx11=>
 some (!x11)
 else
 some false) λp13=>
 some (p13:Bool)
def cH (p0:(List Int)) (p1:Int) (v8:Int) (s1:Unit):Option (Int⊕((Unit)⊕(Unit))):=
 bB (idx p0 v8) λx14=>
 bif (p1==x14) then
  some (.inl (v8:Int))
 else
  some (.inr (.inr ()))
def cw (p0:(List Int)) (p1:Int):Option (Int):=
 bB (cntM (cH p0 p1) p0.length 0 ()) λq2=>
 aft (λr=>some r) (λs3=>
  some ((-1):Int)) q2
def bQ (p0:(List Int)) (p1:Int):Option (Bool):=
 bB (cw p0 p1) λx7=>
 some (decide (0<=x7):Bool)
def gg (p0:Int) (p1:Int) (p2:Bool) (p3:Bool):Option (Int):=
 bB (bif p2 then
  some (1:Int)
 else
  some (0:Int)) λq1=>
 bB (bif p3 then
  some (true,(1:Int))
 else
  some (false,(0:Int))) λq2=>
 bif (p0==1) then
  some ((if p1<(IntKind.i64.wrap (1-q1)) then(IntKind.i64.wrap (1-q1)) else p1):Int)
 else
  bif (p0==2) then
   bB (bif (p1==2) then
   some true
   else
   bB (bif (p1==1) then
   some (!q2.1)
   else
   some false) λp30=>
   some p30) λp31=>
   bif p31 then
    some (2:Int)
   else
    some (q1:Int)
  else
   bif (p0==3) then
    bif q2.1 then
     some (0:Int)
    else
     some ((if p1<q1 then q1 else p1):Int)
   else
    bif (p0==4) then
     some (q1:Int)
    else
     bif (p0==5) then
      some ((IntKind.i64.wrap (1-q1)):Int)
     else
      bif (p0==6) then
       some ((if p1<q1 then q1 else p1):Int)
      else
       some ((IntKind.i64.wrap ((IntKind.i64.wrap (2 * q1))+q2.2)):Int)
def d4 (p1:Clause) (v44:Int) (v50:Int) (s10:(List Int)):Option (Det⊕(((List Int))⊕((List Int)))):=
 bB (bQ p1.A v50) λx60=>
 bB (bQ p1.B v50) λx64=>
 bB (gg p1.Kind v44 x60 x64) λx65=>
 bB (appS 8 s10 ([x65]:List Int)) λx67=>
 some (.inr (.inr (x67:(List Int))))
def dZ (p0:Sig) (p1:Clause) (v44:Int) (s7:(List (List Int))):Option (Det⊕(((List (List Int)))⊕((List (List Int))))):=
 bB (cS p0) λx49=>
 bB (rng x49) λ_=>
 bB (cntM (d4 p1 v44) (xh (x49-0)) 0 (([]:List Int):(List Int))) λq11=>
 aft (λr=>some (.inl r)) (λs12=>
  bB (appS 24 s7 ([s12]:List (List Int))) λx73=>
  some (.inr (.inr (x73:(List (List Int)))))) q11
def jd (p0:Sig) (p1:Clause):Option (Det):=
 bB (bif (p1.Kind==1) then
  some (true:Bool)
 else
  some ((p1.Kind==5):Bool)) λq1=>
 bB (bif q1 then
  some ((2:Int),(([1]:List Int):(List Int)),(([]:List Int):(List Int)))
 else
  bB (bif (p1.Kind==2) then
   some ((3:Int),(([2]:List Int):(List Int)),(([]:List Int):(List Int)))
  else
   bB (bif (p1.Kind==3) then
    some ((2:Int),(([1]:List Int):(List Int)),(([0]:List Int):(List Int)))
   else
    bB (bif (p1.Kind==4) then
     some ((2:Int),(([0,1]:List Int):(List Int)),(([1]:List Int):(List Int)))
    else
     bB (bif (p1.Kind==6) then
      some ((2:Int),(([0]:List Int):(List Int)),(([]:List Int):(List Int)))
     else
      some ((4:Int),(([2,3]:List Int):(List Int)),(([1,3]:List Int):(List Int)))) λq6=>
     some (q6.1,q6.2.1,q6.2.2)) λq5=>
    some (q5.1,q5.2.1,q5.2.2)) λq4=>
   some (q4.1,q4.2.1,q4.2.2)) λq3=>
  some (q3.1,q3.2.1,q3.2.2)) λq2=>
 bB (rng q2.1) λ_=>
 bB (cntM (dZ p0 p1) (xh (q2.1-0)) 0 (([]:List (List Int)):(List (List Int)))) λq8=>
 aft (λr=>some r) (λs9=>
  some ((⟨s9,([(⟨q2.2.1,q2.2.2⟩:Pair)]:List Pair)⟩:Det):Det)) q8
def ck (p0:(List (Int×Int))) (p1:(Int×Int)) (v8:Int) (s1:Unit):Option (Int⊕((Unit)⊕(Unit))):=
 bB (idx p0 v8) λx14=>
 bif ((p1.1==x14.1)&&(p1.2==x14.2)) then
  some (.inl (v8:Int))
 else
  some (.inr (.inr ()))
def co (p0:(List (Int×Int))) (p1:(Int×Int)):Option (Int):=
 bB (cntM (ck p0 p1) p0.length 0 ()) λq2=>
 aft (λr=>some r) (λs3=>
  some ((-1):Int)) q2
def dM (p1:Det) (s1:(List (Int×Int))×Int×(List (List Int))) (x47:(List Int)) (v50:Int) (s4:(List (Int×Int))×(List Int)):Option ((Det×Bool)⊕(((List (Int×Int))×(List Int))⊕((List (Int×Int))×(List Int)))):=
 bB (idx x47 v50) λx53=>
 bB (idx s4.1 s1.2.1) λx60=>
 bB (idx p1.Next x60.2) λx63=>
 bB (idx x63 v50) λx66=>
 bB (co s4.1 (x53,x66)) λx71=>
 bB (bif decide (x71<0) then
  bB (appS 16 s4.1 ([(x53,x66)]:List (Int×Int))) λx79=>
  some (x79,((s4.1.length:Int):Int))
 else
  some (s4.1,x71)) λq7=>
 bB (appS 8 s4.2 ([q7.2]:List Int)) λx83=>
 some (.inr (.inr (q7.1,x83)))
def fi (p0:Det) (p1:Det) (s1:(List (Int×Int))×Int×(List (List Int))):Option ((Det×Bool)⊕(((List (Int×Int))×Int×(List (List Int)))⊕((List (Int×Int))×Int×(List (List Int))))):=
 bif decide (s1.2.1<(s1.1.length:Int)) then
  bB (idx s1.1 s1.2.1) λx44=>
  bB (idx p0.Next x44.1) λx47=>
  bB (cntM (dM p1 s1 x47) x47.length 0 (s1.1,(([]:List Int):(List Int)))) λq5=>
  aft (λr=>some (.inl r)) (λs6=>
   bif decide (48<(s6.1.length:Int)) then
    some (.inl (((⟨([]:List (List Int)),([]:List Pair)⟩:Det):Det),false))
   else
    bB (appS 24 s1.2.2 ([s6.2]:List (List Int))) λx93=>
    some (.inr (.inr (s6.1,((IntKind.i64.wrap (s1.2.1+1)):Int),x93)))) q5
 else
  some (.inr (.inl (s1.1,s1.2.1,s1.2.2)))
def eQ (s3:(List (Int×Int))×Int×(List (List Int))) (v99:Int) (x109:Pair) (v114:Int) (s14:(List Int)×(List Int)):Option ((Det×Bool)⊕(((List Int)×(List Int))⊕((List Int)×(List Int)))):=
 bB (idx s3.1 v114) λx117=>
 bB (idx ([x117.1,x117.2]:List Int) v99) λx122=>
 bB (bQ x109.Ask x122) λx124=>
 bB (bif x124 then
  bB (appS 8 s14.1 ([v114]:List Int)) λx129=>
  some (x129:(List Int))
 else
  some (s14.1:(List Int))) λq17=>
 bB (idx ([x117.1,x117.2]:List Int) v99) λx134=>
 bB (bQ x109.Give x134) λx136=>
 bB (bif x136 then
  bB (appS 8 s14.2 ([v114]:List Int)) λx141=>
  some (x141:(List Int))
 else
  some (s14.2:(List Int))) λq18=>
 some (.inr (.inr (q17,q18)))
def cR (s3:(List (Int×Int))×Int×(List (List Int))) (v99:Int) (x102:Det) (v107:Int) (s11:(List Pair)):Option ((Det×Bool)⊕(((List Pair))⊕((List Pair)))):=
 bB (idx x102.Pairs v107) λx109=>
 bB (cntM (eQ s3 v99 x109) s3.1.length 0 ((([]:List Int):(List Int)),(([]:List Int):(List Int)))) λq15=>
 aft (λr=>some (.inl r)) (λs16=>
  bB (appS 48 s11 ([(⟨s16.1,s16.2⟩:Pair)]:List Pair)) λx148=>
  some (.inr (.inr (x148:(List Pair))))) q15
def cF (p0:Det) (p1:Det) (s3:(List (Int×Int))×Int×(List (List Int))) (v99:Int) (s8:(List Pair)):Option ((Det×Bool)⊕(((List Pair))⊕((List Pair)))):=
 bB (idx ([p0,p1]:List Det) v99) λx102=>
 bB (cntM (cR s3 v99 x102) x102.Pairs.length 0 (s8:(List Pair))) λq12=>
 aft (λr=>some (.inl r)) (λs13=>
  some (.inr (.inr (s13:(List Pair))))) q12
def gB (p0:Det) (p1:Det):Option (Det×Bool):=
 bif decide (4<(IntKind.i64.wrap ((p0.Pairs.length:Int)+(p1.Pairs.length:Int)))) then
  some (((⟨([]:List (List Int)),([]:List Pair)⟩:Det):Det),false)
 else
  bB (bZ (fi p0 p1) (2 ^ 64) ((([(0,0)]:List (Int×Int)):(List (Int×Int))),(0:Int),(([]:List (List Int)):(List (List Int))))) λq2=>
  aft (λr=>some r) (λs3=>
   bB (cntM (cF p0 p1 s3) ([p0,p1]:List Det).length 0 (([]:List Pair):(List Pair))) λq9=>
   aft (λr=>some r) (λs10=>
    some (((⟨s3.2.2,s10⟩:Det):Det),true)) q9) q2
def dU (p0:Sig) (p1:(List Clause)) (v28:Int) (s1:(List (List Int))×(List Pair)):Option ((Det×Bool)⊕(((List (List Int))×(List Pair))⊕((List (List Int))×(List Pair)))):=
 bB (idx p1 v28) λx30=>
 bB (jd p0 x30) λx36=>
 bB (gB (⟨s1.1,s1.2⟩:Det) x36) λx37=>
 bif (!x37.2) then
  some (.inl (((⟨([]:List (List Int)),([]:List Pair)⟩:Det):Det),false))
 else
  some (.inr (.inr (x37.1.Next,x37.1.Pairs)))
def ee (p0:Sig) (p1:(List Clause)):Option (Det×Bool):=
 bB (mh p0) λx12=>
 bB (bif (!x12) then
 some true
 else
 bB (gK p0 p1) λx17=>
 some (!x17)) λp19=>
 bif p19 then
  some (((⟨([]:List (List Int)),([]:List Pair)⟩:Det):Det),false)
 else
  bB (cS p0) λx22=>
  bB (mkS 8 x22 (0:Int)) λx23=>
  bB (cntM (dU p0 p1) p1.length 0 ((([x23]:List (List Int)):(List (List Int))),(([]:List Pair):(List Pair)))) λq2=>
  aft (λr=>some r) (λs3=>
   some (((⟨s3.1,s3.2⟩:Det):Det),true)) q2
def dB (p0:Sig):Option (Int):=
 bB (nn p0.In) λ_z5=>
 some ((IntKind.i64.wrap (1 * 2 ^ (min (xh p0.In) (IntKind.bits IntKind.i64)))):Int)
def cr (p0:(List Int)):Option (List Int):=
 if 0<p0.length/\p0.length<4611686018427387904 then some (p0.mergeSort λx y=>decide (x<=y)) else if p0.length=0 then some p0 else none
def cM (p0:(List Int)):Option (List Int):=
 if 0<p0.length/\p0.length<4611686018427387904 then some (Go.Lib.compact p0) else none
def lw (p0:Pair):Option (Pair):=
 bB (appS 8 ([]:List Int) p0.Ask) λx6=>
 bB (appS 8 ([]:List Int) p0.Give) λx10=>
 some ((⟨x6,x10⟩:Pair):Pair)
def dN (p1:Det) (x24:Int) (v26:Int) (v31:Int) (s4:(List Int)):Option ((Arena×(List Pair))⊕(((List Int))⊕((List Int)))):=
 bB (appS 8 s4 ([(IntKind.i64.wrap ((IntKind.i64.wrap ((p1.Next.length:Int)+(IntKind.i64.wrap (v26 * x24))))+v31))]:List Int)) λx43=>
 some (.inr (.inr (x43:(List Int))))
def dR (p1:Det) (x24:Int) (v26:Int) (s1:(List Int)×(List (List Int))):Option ((Arena×(List Pair))⊕(((List Int)×(List (List Int)))⊕((List Int)×(List (List Int))))):=
 bB (rng x24) λ_=>
 bB (cntM (dN p1 x24 v26) (xh (x24-0)) 0 (([]:List Int):(List Int))) λq5=>
 aft (λr=>some (.inl r)) (λs6=>
  bB (appS 8 s1.1 ([1]:List Int)) λx48=>
  bB (appS 24 s1.2 ([s6]:List (List Int))) λx54=>
  some (.inr (.inr (x48,x54)))) q5
def dX (p1:Det) (x24:Int) (v58:Int) (v62:Int) (v69:Int) (s13:(List Int)):Option ((Arena×(List Pair))⊕(((List Int))⊕((List Int)))):=
 bB (idx p1.Next v58) λx76=>
 bB (idx x76 (IntKind.i64.wrap ((IntKind.i64.wrap (v69 * x24))+v62))) λx83=>
 bB (appS 8 s13 ([x83]:List Int)) λx86=>
 some (.inr (.inr (x86:(List Int))))
def d5 (p0:Sig) (p1:Det) (x24:Int) (v58:Int) (v62:Int) (s10:(List Int)×(List (List Int))):Option ((Arena×(List Pair))⊕(((List Int)×(List (List Int)))⊕((List Int)×(List (List Int))))):=
 bB (nn p0.Out) λ_z68=>
 bB (rng (IntKind.i64.wrap (1 * 2 ^ (min (xh p0.Out) (IntKind.bits IntKind.i64))))) λ_=>
 bB (cntM (dX p1 x24 v58 v62) (xh ((IntKind.i64.wrap (1 * 2 ^ (min (xh p0.Out) (IntKind.bits IntKind.i64))))-0)) 0 (([]:List Int):(List Int))) λq14=>
 aft (λr=>some (.inl r)) (λs15=>
  bB (cr s15) λx89=>
  bB (appS 8 s10.1 ([0]:List Int)) λx93=>
  bB (cM x89) λx98=>
  bB (appS 24 s10.2 ([x98]:List (List Int))) λx100=>
  some (.inr (.inr (x93,x100)))) q14
def dI (p0:Sig) (p1:Det) (x24:Int) (v58:Int) (s7:(List Int)×(List (List Int))):Option ((Arena×(List Pair))⊕(((List Int)×(List (List Int)))⊕((List Int)×(List (List Int))))):=
 bB (rng x24) λ_=>
 bB (cntM (d5 p0 p1 x24 v58) (xh (x24-0)) 0 (s7.1,s7.2)) λq11=>
 aft (λr=>some (.inl r)) (λs12=>
  some (.inr (.inr (s12.1,s12.2)))) q11
def dw (p1:Det) (v108:Int) (s16:(List Pair)):Option ((Arena×(List Pair))⊕(((List Pair))⊕((List Pair)))):=
 bB (idx p1.Pairs v108) λx110=>
 bB (lw x110) λx114=>
 bB (appS 48 s16 ([x114]:List Pair)) λx116=>
 some (.inr (.inr (x116:(List Pair))))
def fq (p0:Sig) (p1:Det):Option (Arena×(List Pair)):=
 bB (dB p0) λx24=>
 bB (cntM (dR p1 x24) p1.Next.length 0 ((([]:List Int):(List Int)),(([]:List (List Int)):(List (List Int))))) λq2=>
 aft (λr=>some r) (λs3=>
  bB (cntM (dI p0 p1 x24) p1.Next.length 0 (s3.1,s3.2)) λq8=>
  aft (λr=>some r) (λs9=>
   bB (cntM (dw p1) p1.Pairs.length 0 (([]:List Pair):(List Pair))) λq17=>
   aft (λr=>some r) (λs18=>
    some (((⟨s9.1,s9.2⟩:Arena):Arena),s18)) q17) q8) q2
def ew (p0:(List Pair)) (p1:(List Int)) (p2:Int) (v15:Int) (s1:(List Int)×(List Int)):Option ((List Int)⊕(((List Int)×(List Int))⊕((List Int)×(List Int)))):=
 bB (idx p1 v15) λx17=>
 bB (idx p0 x17) λx21=>
 bB (bQ x21.Give p2) λx25=>
 bB (bif x25 then
  bB (appS 8 s1.1 ([x17]:List Int)) λx29=>
  some (x29,s1.2)
 else
  bB (appS 8 s1.2 ([x17]:List Int)) λx33=>
  some (s1.1,x33)) λq4=>
 some (.inr (.inr (q4.1,q4.2)))
def gP (p0:(List Pair)) (p1:(List Int)) (p2:Int):Option ((List Int)):=
 bB (cntM (ew p0 p1 p2) p1.length 0 ((([]:List Int):(List Int)),(([]:List Int):(List Int)))) λq2=>
 aft (λr=>some r) (λs3=>
  bB (appS 8 s3.1 s3.2) λx37=>
  some (x37:(List Int))) q2
def gH (p0:Place) (c0:(List Pair)):Option ((List Int)):=
 bB (gP c0 p0.Record p0.At) λx9=>
 some (x9:(List Int))
def cK (p0:(List Int)) (p1:(List Int)) (v13:Int) (s1:Unit):Option (Bool⊕((Unit)⊕(Unit))):=
 bB (idx p0 v13) λx18=>
 bB (idx p1 v13) λx22=>
 bif (x18 !=x22) then
  some (.inl (false:Bool))
 else
  some (.inr (.inr ()))
def cT (p0:(List Int)) (p1:(List Int)):Option (Bool):=
 bif ((p0.length:Int) !=(p1.length:Int)) then
  some (false:Bool)
 else
  bB (cntM (cK p0 p1) p0.length 0 ()) λq2=>
  aft (λr=>some r) (λs3=>
   some (true:Bool)) q2
def iL (p0:Place) (c0:Int) (c1:(List Int)):Option (Bool):=
 bB (bif (p0.At==c0) then
 bB (cT p0.Record c1) λx13=>
 some x13
 else
 some false) λp14=>
 some (p14:Bool)
def bW (p0:(List Place)) (c1_0:Int) (c1_1:(List Int)) (v8:Int) (s1:Unit):Option (Int⊕((Unit)⊕(Unit))):=
 bB (idx p0 v8) λx14=>
 bB (iL x14 c1_0 c1_1) λx16=>
 bif x16 then
  some (.inl (v8:Int))
 else
  some (.inr (.inr ()))
def bY (p0:(List Place)) (c1_0:Int) (c1_1:(List Int)):Option (Int):=
 bB (cntM (bW p0 c1_0 c1_1) p0.length 0 ()) λq2=>
 aft (λr=>some r) (λs3=>
  some ((-1):Int)) q2
def kz (p0:(List Place)) (p1:Int) (p2:(List Int)):Option (Int):=
 bB (bY p0 p1 p2) λx9=>
 some (x9:Int)
def ey (p0:(List Pair)) (p1:(List Int)) (p2:Int) (v13:Int) (s1:Int×Int):Option (Int⊕((Int×Int)⊕(Int×Int))):=
 bB (idx p1 v13) λx16=>
 bB (idx p0 x16) λx20=>
 bB (bQ x20.Ask p2) λx24=>
 bB (bif x24 then
  some (v13:Int)
 else
  some (s1.1:Int)) λq4=>
 bB (idx p0 x16) λx28=>
 bB (bQ x28.Give p2) λx32=>
 bB (bif x32 then
  some (v13:Int)
 else
  some (s1.2:Int)) λq5=>
 some (.inr (.inr (q4,q5)))
def gT (p0:(List Pair)) (p1:(List Int)) (p2:Int):Option (Int):=
 bB (cntM (ey p0 p1 p2) p1.length 0 (((-1):Int),((-1):Int))) λq2=>
 aft (λr=>some r) (λs3=>
  bB (bif decide (s3.1<0) then
  some (decide (s3.2<0))
  else
  some false) λp41=>
  bif p41 then
   some (0:Int)
  else
   bif decide (s3.2<s3.1) then
    some ((IntKind.i64.wrap ((IntKind.i64.wrap (2 * s3.1))+1)):Int)
   else
    some ((IntKind.i64.wrap ((IntKind.i64.wrap (2 * s3.2))+2)):Int)) q2
def hU (p0:Place) (c0:(List Pair)):Option (Int):=
 bB (gT c0 p0.Record p0.At) λx9=>
 some (x9:Int)
def jo (p0:Parity) (p1:Int) (p2:Int) (p3:(List Int)):Option (Parity):=
 bB (appS 8 p0.Arena.Owner ([p1]:List Int)) λx14=>
 bB (appS 24 p0.Arena.Next ([p3]:List (List Int))) λx22=>
 bB (appS 8 p0.Prio ([p2]:List Int)) λx29=>
 some ((⟨(⟨x14,x22⟩:Arena),x29⟩:Parity):Parity)
def bV (x35:(List Int)) (x41:(List Int)) (v44:Int) (s4:(List Place)×(List Int)):Option ((Parity×(List Place)×Bool)⊕(((List Place)×(List Int))⊕((List Place)×(List Int)))):=
 bB (idx x41 v44) λx46=>
 bB (kz s4.1 x46 x35) λx51=>
 bB (bif decide (x51<0) then
  bB (appS 8 ([]:List Int) x35) λx60=>
  bB (appS 32 s4.1 ([(⟨x46,x60⟩:Place)]:List Place)) λx63=>
  some (x63,((s4.1.length:Int):Int))
 else
  some (s4.1,x51)) λq7=>
 bB (appS 8 s4.2 ([q7.2]:List Int)) λx67=>
 some (.inr (.inr (q7.1,x67)))
def bO (p0:Arena) (c2_0:(List Pair)) (s1:(List Place)×Int×(List Int)×(List (List Int))×(List Int)):Option ((Parity×(List Place)×Bool)⊕(((List Place)×Int×(List Int)×(List (List Int))×(List Int))⊕((List Place)×Int×(List Int)×(List (List Int))×(List Int)))):=
 bif decide (s1.2.1<(s1.1.length:Int)) then
  bB (idx s1.1 s1.2.1) λx31=>
  bB (gH x31 c2_0) λx35=>
  bB (idx p0.Next x31.At) λx41=>
  bB (cntM (bV x35 x41) x41.length 0 (s1.1,(([]:List Int):(List Int)))) λq5=>
  aft (λr=>some (.inl r)) (λs6=>
   bif decide (256<(s6.1.length:Int)) then
    some (.inl (((⟨(⟨([]:List Int),([]:List (List Int))⟩:Arena),([]:List Int)⟩:Parity):Parity),(([]:List Place):(List Place)),false))
   else
    bB (cr s6.2) λx74=>
    bB (idx p0.Owner x31.At) λx80=>
    bB (hU x31 c2_0) λx84=>
    bB (jo (⟨(⟨s1.2.2.1,s1.2.2.2.1⟩:Arena),s1.2.2.2.2⟩:Parity) x80 x84 x74) λx86=>
    some (.inr (.inr (s6.1,((IntKind.i64.wrap (s1.2.1+1)):Int),x86.Arena.Owner,x86.Arena.Next,x86.Prio)))) q5
 else
  some (.inr (.inl (s1.1,s1.2.1,s1.2.2.1,s1.2.2.2.1,s1.2.2.2.2)))
def ci (p0:Arena) (p1:Place) (c2_0:(List Pair)):Option (Parity×(List Place)×Bool):=
 bB (bZ (bO p0 c2_0) (2 ^ 64) ((([p1]:List Place):(List Place)),(0:Int),(([]:List Int):(List Int)),(([]:List (List Int)):(List (List Int))),(([]:List Int):(List Int)))) λq2=>
 aft (λr=>some r) (λs3=>
  some (((⟨(⟨s3.2.2.1,s3.2.2.2.1⟩:Arena),s3.2.2.2.2⟩:Parity):Parity),s3.1,true)) q2
def iJ  (v15:Int) (s1:(List Int)):Option ((Parity×(List Place)×Bool)⊕(((List Int))⊕((List Int)))):=
 bB (appS 8 s1 ([v15]:List Int)) λx22=>
 some (.inr (.inr (x22:(List Int))))
def eY (p0:Arena) (p1:(List Pair)) (p2:Int):Option (Parity×(List Place)×Bool):=
 bB (cntM iJ p1.length 0 (([]:List Int):(List Int))) λq2=>
 aft (λr=>some r) (λs3=>
  bB (ci p0 (⟨p2,s3⟩:Place) p1) λx29=>
  some (x29.1,x29.2.1,x29.2.2)) q2
def rn (p0:Arena):Option (Int):=
 some ((p0.Owner.length:Int):Int)
def jW  (v4:Int) (s1:(List Int)):Option ((List Int)⊕(((List Int))⊕((List Int)))):=
 bB (appS 8 s1 ([v4]:List Int)) λx20=>
 some (.inr (.inr (x20:(List Int))))
def oI (p0:Int):Option ((List Int)):=
 bB (bif decide (p0<0) then
 some true
 else
 some (decide (256<p0))) λp10=>
 bif p10 then
  some (([]:List Int):(List Int))
 else
  bB (rng p0) λ_=>
  bB (cntM jW (xh (p0-0)) 0 (([]:List Int):(List Int))) λq2=>
  aft (λr=>some r) (λs3=>
   some (s3:(List Int))) q2
def nE (p0:Arena):Option ((List Int)):=
 bB (rn p0) λx4=>
 bB (oI x4) λx5=>
 some (x5:(List Int))
def g9 (v15:Int) (x18:(List Int)) (v22:Int) (s4:(List (List Int))):Option ((List (List Int))⊕(((List (List Int)))⊕((List (List Int))))):=
 bB (idx x18 v22) λx24=>
 bB (idx s4 x24) λx30=>
 bB (appS 8 x30 ([v15]:List Int)) λx34=>
 bB (idx s4 x24) λx35=>
 bB (setI s4 x24 (x34:(List Int))) λy364=>
 some (.inr (.inr (y364:(List (List Int)))))
def gO (p0:Arena) (v15:Int) (s1:(List (List Int))):Option ((List (List Int))⊕(((List (List Int)))⊕((List (List Int))))):=
 bB (idx p0.Next v15) λx18=>
 bB (cntM (g9 v15 x18) x18.length 0 (s1:(List (List Int)))) λq5=>
 aft (λr=>some (.inl r)) (λs6=>
  some (.inr (.inr (s6:(List (List Int)))))) q5
def kV (p0:Arena):Option ((List (List Int))):=
 bB (mkS 24 (p0.Owner.length:Int) (([]:List Int):(List Int))) λx11=>
 bB (cntM (gO p0) p0.Next.length 0 (x11:(List (List Int)))) λq2=>
 aft (λr=>some r) (λs3=>
  some (s3:(List (List Int)))) q2
def iP (p1:(List Int)) (v14:Int) (s1:(List Bool)):Option ((List Bool)⊕(((List Bool))⊕((List Bool)))):=
 bB (idx p1 v14) λx16=>
 bB (idx s1 x16) λx20=>
 bB (setI s1 x16 true) λy367=>
 some (.inr (.inr (y367:(List Bool))))
def lU (p0:Arena) (p1:(List Int)):Option ((List Bool)):=
 bB (mkS 1 (p0.Owner.length:Int) (false:Bool)) λx11=>
 bB (cntM (iP p1) p1.length 0 (x11:(List Bool))) λq2=>
 aft (λr=>some r) (λs3=>
  some (s3:(List Bool))) q2
def i9 (p0:(List Bool)) (v9:Int) (s1:(List Int)):Option ((List Int)⊕(((List Int))⊕((List Int)))):=
 bB (idx p0 v9) λx12=>
 bB (bif x12 then
  bB (appS 8 s1 ([v9]:List Int)) λx18=>
  some (x18:(List Int))
 else
  some (s1:(List Int))) λq4=>
 some (.inr (.inr (q4:(List Int))))
def fR (p0:(List Bool)):Option ((List Int)):=
 bB (cntM (i9 p0) p0.length 0 (([]:List Int):(List Int))) λq2=>
 aft (λr=>some r) (λs3=>
  some (s3:(List Int))) q2
def jN (p0:Parity) (p1:(List Int)) (v10:Int) (s1:Int):Option (Int⊕((Int)⊕(Int))):=
 bB (idx p1 v10) λx12=>
 bB (idx p0.Prio x12) λx18=>
 some (.inr (.inr ((if s1<x18 then x18 else s1):Int)))
def nj (p0:Parity) (p1:(List Int)):Option (Int):=
 bB (cntM (jN p0 p1) p1.length 0 ((-1):Int)) λq2=>
 aft (λr=>some r) (λs3=>
  some (s3:Int)) q2
def cJ (p2:(List Bool)) (x43:Int) (x79:(List Int)) (v82:Int) (s8:(List Int)):Option ((List Bool)⊕(((List Int))⊕((List Int)))):=
 bB (idx x79 v82) λx84=>
 bB (idx p2 x84) λx88=>
 bB (bif x88 then
  bB (idx s8 x43) λx92=>
  bB (idx s8 x43) λx95=>
  bB (setI s8 x43 (IntKind.i64.wrap (x92+1))) λy380=>
  some (y380:(List Int))
 else
  some (s8:(List Int))) λq11=>
 some (.inr (.inr (q11:(List Int))))
def dg (p0:solver) (p1:Int) (p2:(List Bool)) (x38:(List Int)) (v41:Int) (s4:(List Int)×(List Bool)×(List Int)):Option ((List Bool)⊕(((List Int)×(List Bool)×(List Int))⊕((List Int)×(List Bool)×(List Int)))):=
 bB (idx x38 v41) λx43=>
 bB (idx s4.2.1 x43) λx47=>
 bB (bif x47 then
 some true
 else
 bB (idx p2 x43) λx52=>
 some (!x52)) λp55=>
 bif p55 then
  some (.inr (.inr (s4.1,s4.2.1,s4.2.2)))
 else
  bB (idx p0.game.Arena.Owner x43) λx63=>
  bif (x63 !=p1) then
   bB (idx s4.2.2 x43) λx69=>
   bB (bif (x69==0) then
    bB (idx p0.game.Arena.Next x43) λx79=>
    bB (cntM (cJ p2 x43 x79) x79.length 0 (s4.2.2:(List Int))) λq9=>
    aft (λr=>none) (λs10=>
     some (s10:(List Int))) q9
   else
    some (s4.2.2:(List Int))) λq7=>
   bB (idx q7 x43) λx99=>
   bB (idx q7 x43) λx102=>
   bB (setI q7 x43 (IntKind.i64.wrap (x99-1))) λy381=>
   bB (idx y381 x43) λx105=>
   bif decide (0<x105) then
    some (.inr (.inr (s4.1,s4.2.1,y381)))
   else
    bB (idx s4.2.1 x43) λx110=>
    bB (setI s4.2.1 x43 true) λy382=>
    bB (appS 8 s4.1 ([x43]:List Int)) λx114=>
    some (.inr (.inr (x114,y382,y381)))
  else
   bB (idx s4.2.1 x43) λx110=>
   bB (setI s4.2.1 x43 true) λy382=>
   bB (appS 8 s4.1 ([x43]:List Int)) λx114=>
   some (.inr (.inr (x114,y382,s4.2.2)))
def dQ (p0:solver) (p1:Int) (p2:(List Bool)) (s1:(List Int)×(List Bool)×(List Int)):Option ((List Bool)⊕(((List Int)×(List Bool)×(List Int))⊕((List Int)×(List Bool)×(List Int)))):=
 bif decide (0<(s1.1.length:Int)) then
  bB (idx s1.1 0) λx29=>
  bB (subS s1.1 1 (s1.1.length:Int)) λx32=>
  bB (idx p0.preds x29) λx38=>
  bB (cntM (dg p0 p1 p2 x38) x38.length 0 (x32,s1.2.1,s1.2.2)) λq5=>
  aft (λr=>some (.inl r)) (λs6=>
   some (.inr (.inr (s6.1,s6.2.1,s6.2.2)))) q5
 else
  some (.inr (.inl (s1.1,s1.2.1,s1.2.2)))
def eG (p0:solver) (p1:Int) (p2:(List Bool)) (p3:(List Bool)):Option ((List Bool)):=
 bB (appS 1 ([]:List Bool) p3) λx19=>
 bB (mkS 8 (p2.length:Int) (0:Int)) λx22=>
 bB (fR p3) λx24=>
 bB (bZ (dQ p0 p1 p2) (2 ^ 64) (x24,x19,x22)) λq2=>
 aft (λr=>some r) (λs3=>
  some (s3.2.1:(List Bool))) q2
def ig (p0:(List Bool)) (p1:(List Bool)) (v12:Int) (s1:(List Bool)):Option ((List Bool)⊕(((List Bool))⊕((List Bool)))):=
 bB (idx p0 v12) λx19=>
 bB (bif x19 then
 bB (idx p1 v12) λx24=>
 some (!x24)
 else
 some false) λp27=>
 bB (idx s1 v12) λx28=>
 bB (setI s1 v12 p27) λy386=>
 some (.inr (.inr (y386:(List Bool))))
def eH (p0:(List Bool)) (p1:(List Bool)):Option ((List Bool)):=
 bB (mkS 1 (p0.length:Int) (false:Bool)) λx9=>
 bB (cntM (ig p0 p1) p0.length 0 (x9:(List Bool))) λq2=>
 aft (λr=>some r) (λs3=>
  some (s3:(List Bool))) q2
def cz (p0:(List Bool)) (p1:Bool) (v8:Int) (s1:Unit):Option (Int⊕((Unit)⊕(Unit))):=
 bB (idx p0 v8) λx14=>
 bif (p1==x14) then
  some (.inl (v8:Int))
 else
  some (.inr (.inr ()))
def dc (p0:(List Bool)) (p1:Bool):Option (Int):=
 bB (cntM (cz p0 p1) p0.length 0 ()) λq2=>
 aft (λr=>some r) (λs3=>
  some ((-1):Int)) q2
def cn (p0:(List Bool)) (p1:Bool):Option (Bool):=
 bB (dc p0 p1) λx7=>
 some (decide (0<=x7):Bool)
def eB (p0:solver) (x27:Int) (s1:(List Bool)) (v38:Int) (s4:(List Bool)):Option (((List Bool)×Int)⊕(((List Bool))⊕((List Bool)))):=
 bB (idx s1 v38) λx45=>
 bB (bif x45 then
 bB (idx p0.game.Prio v38) λx54=>
 some (x54==x27)
 else
 some false) λp58=>
 bB (idx s4 v38) λx59=>
 bB (setI s4 v38 p58) λy375=>
 some (.inr (.inr (y375:(List Bool))))
def eC (rc:solver->(List Bool)->Option ((List Bool)×Int)) (p0:solver) (p1:(List Bool)) (x27:Int) (s1:(List Bool)):Option (((List Bool)×Int)⊕(((List Bool))⊕((List Bool)))):=
 bB (mkS 1 (p1.length:Int) (false:Bool)) λx35=>
 bB (cntM (eB p0 x27 s1) x35.length 0 (x35:(List Bool))) λq5=>
 aft (λr=>some (.inl r)) (λs6=>
  bB (eG p0 (Int.tmod x27 2) s1 s6) λx66=>
  bB (eH s1 x66) λx67=>
  bB (rc p0 x67) λx71=>
  bB (bif (x71.2==(Int.tmod x27 2)) then
   bB (eH x67 x71.1) λx80=>
   some (x80:(List Bool))
  else
   some (x71.1:(List Bool))) λq7=>
  bB (cn q7 true) λx82=>
  bif (!x82) then
   some (.inl (s1,((Int.tmod x27 2):Int)))
  else
   bB (eG p0 (IntKind.i64.wrap (1-(Int.tmod x27 2))) s1 q7) λx92=>
   bB (eH s1 x92) λx93=>
   bB (cn x93 true) λx95=>
   bif (!x95) then
    some (.inl (x93,((Int.tmod x27 2):Int)))
   else
    some (.inr (.inr (x93:(List Bool))))) q5
def di (rc:solver->(List Bool)->Option ((List Bool)×Int)) (p0:solver) (p1:(List Bool)):Option ((List Bool)×Int):=
 bB (fR p1) λx17=>
 bif ((x17.length:Int)==0) then
  some (p1,(0:Int))
 else
  bB (nj p0.game x17) λx27=>
  bB (appS 1 ([]:List Bool) p1) λx32=>
  bB (bZ (eC rc p0 p1 x27) (2 ^ 64) (x32:(List Bool))) λq2=>
  aft (λr=>some r) (λs3=>
   none) q2
def db:Nat->solver->(List Bool)->Option ((List Bool)×Int)
 | 0=>λ_ _=>none
 | n+1=>di (db n)
def mr (p0:Parity) (p1:(List Int)):Option ((List Int)×(List Int)):=
 bB (kV p0.Arena) λx13=>
 bB (lU p0.Arena p1) λx19=>
 bB (db (2 ^ 64) (⟨p0,x13⟩:solver) x19) λx23=>
 bif (x23.2==0) then
  bB (fR x23.1) λx29=>
  bB (eH x19 x23.1) λx32=>
  bB (fR x32) λx33=>
  some (x29,x33)
 else
  bB (eH x19 x23.1) λx36=>
  bB (fR x36) λx37=>
  bB (fR x23.1) λx39=>
  some (x37,x39)
def ie (x17:(List Int)×(List Int)) (v22:Int) (s1:(List Int)):Option ((List Int)⊕(((List Int))⊕((List Int)))):=
 bB (idx x17.2 v22) λx24=>
 bB (idx s1 x24) λx28=>
 bB (setI s1 x24 1) λy400=>
 some (.inr (.inr (y400:(List Int))))
def gC (p0:Parity):Option ((List Int)):=
 bB (mkS 8 (p0.Prio.length:Int) (0:Int)) λx11=>
 bB (nE p0.Arena) λx16=>
 bB (mr p0 x16) λx17=>
 bB (cntM (ie x17) x17.2.length 0 (x11:(List Int))) λq2=>
 aft (λr=>some r) (λs3=>
  some (s3:(List Int))) q2
def gQ (p0:Arena) (v25:Int) (s1:Unit):Option (Bool⊕((Unit)⊕(Unit))):=
 bB (idx p0.Next v25) λx28=>
 bB (idx p0.Owner v25) λx33=>
 bB (bif decide (x33<0) then
 some true
 else
 bB (idx p0.Owner v25) λx40=>
 some (decide (1<x40))) λp43=>
 bB (bif p43 then
 some true
 else
 some (decide ((x28.length:Int)<1))) λp48=>
 bB (bif p48 then
 some true
 else
 some (decide (16<(x28.length:Int)))) λp53=>
 bB (bif p53 then
 some true
 else
 bB (jn x28 (p0.Owner.length:Int)) λx57=>
 some (!x57)) λp59=>
 bif p59 then
  some (.inl (false:Bool))
 else
  some (.inr (.inr ()))
def kI (p0:Arena):Option (Bool):=
 bB (bif decide ((p0.Owner.length:Int)<1) then
 some true
 else
 some (decide (256<(p0.Owner.length:Int)))) λp14=>
 bB (bif p14 then
 some true
 else
 some ((p0.Next.length:Int) !=(p0.Owner.length:Int))) λp21=>
 bif p21 then
  some (false:Bool)
 else
  bB (cntM (gQ p0) p0.Next.length 0 ()) λq2=>
  aft (λr=>some r) (λs3=>
   some (true:Bool)) q2
def ga (p0:Parity) (v22:Int) (s1:Unit):Option (Bool⊕((Unit)⊕(Unit))):=
 bB (idx p0.Prio v22) λx24=>
 bB (bif decide (x24<0) then
 some true
 else
 some (decide (40<x24))) λp31=>
 bif p31 then
  some (.inl (false:Bool))
 else
  some (.inr (.inr ()))
def j8 (p0:Parity):Option (Bool):=
 bB (kI p0.Arena) λx7=>
 bB (bif (!x7) then
 some true
 else
 some ((p0.Prio.length:Int) !=(p0.Arena.Owner.length:Int))) λp18=>
 bif p18 then
  some (false:Bool)
 else
  bB (cntM (ga p0) p0.Prio.length 0 ()) λq2=>
  aft (λr=>some r) (λs3=>
   some (true:Bool)) q2
def ko  (v11:Int) (s1:(List Int)):Option ((List Int)⊕(((List Int))⊕((List Int)))):=
 bB (idx s1 v11) λx16=>
 bB (setI s1 v11 (-1)) λy407=>
 some (.inr (.inr (y407:(List Int))))
def lH (p0:Arena):Option ((List Int)):=
 bB (mkS 8 (p0.Owner.length:Int) (0:Int)) λx8=>
 bB (cntM ko x8.length 0 (x8:(List Int))) λq2=>
 aft (λr=>some r) (λs3=>
  some (s3:(List Int))) q2
def fK (p0:Answer) (p1:Int) (v16:Int) (s1:(List Int)):Option ((List Int)⊕(((List Int))⊕((List Int)))):=
 bB (idx p0.Won v16) λx19=>
 bB (bif (x19==p1) then
  bB (appS 8 s1 ([v16]:List Int)) λx27=>
  some (x27:(List Int))
 else
  some (s1:(List Int))) λq4=>
 some (.inr (.inr (q4:(List Int))))
def jB (p0:Answer) (p1:Int):Option ((List Int)):=
 bif decide (256<(p0.Won.length:Int)) then
  some (([]:List Int):(List Int))
 else
  bB (cntM (fK p0 p1) p0.Won.length 0 (([]:List Int):(List Int))) λq2=>
  aft (λr=>some r) (λs3=>
   some (s3:(List Int))) q2
def fo (p0:(List (List Int))) (v9:Int) (s1:(List (List Int))):Option ((List (List Int))⊕(((List (List Int)))⊕((List (List Int))))):=
 bB (idx p0 v9) λx11=>
 bB (appS 8 ([]:List Int) x11) λx16=>
 bB (appS 24 s1 ([x16]:List (List Int))) λx18=>
 some (.inr (.inr (x18:(List (List Int)))))
def kj (p0:(List (List Int))):Option ((List (List Int))):=
 bB (cntM (fo p0) p0.length 0 (([]:List (List Int)):(List (List Int)))) λq2=>
 aft (λr=>some r) (λs3=>
  some (s3:(List (List Int)))) q2
def iM (p0:Arena):Option (Arena):=
 bB (appS 8 ([]:List Int) p0.Owner) λx6=>
 bB (kj p0.Next) λx9=>
 some ((⟨x6,x9⟩:Arena):Arena)
def gM (p1:(List Int)) (v12:Int) (s1:(List (List Int))):Option (Arena⊕(((List (List Int)))⊕((List (List Int))))):=
 bB (idx p1 v12) λx15=>
 bB (bif decide (0<=x15) then
  bB (idx s1 v12) λx24=>
  bB (setI s1 v12 (([x15]:List Int):(List Int))) λy424=>
  some (y424:(List (List Int)))
 else
  some (s1:(List (List Int)))) λq4=>
 some (.inr (.inr (q4:(List (List Int)))))
def kA (p0:Arena) (p1:(List Int)):Option (Arena):=
 bB (iM p0) λx9=>
 bB (cntM (gM p1) p1.length 0 (x9.Next:(List (List Int)))) λq2=>
 aft (λr=>some r) (λs3=>
  some ((⟨x9.Owner,s3⟩:Arena):Arena)) q2
def lK (p0:Parity) (p1:(List Int)):Option (Parity):=
 bB (kA p0.Arena p1) λx8=>
 bB (appS 8 ([]:List Int) p0.Prio) λx12=>
 some ((⟨(⟨x8.Owner,x8.Next⟩:Arena),x12⟩:Parity):Parity)
def eF (p0:Parity) (p2:(List Int)) (v19:Int) (x46:(List Int)) (x51:(List Int)) (v54:Int) (s4:(List Int)):Option (Answer⊕(((List Int))⊕((List Int)))):=
 bB (idx x51 v54) λx56=>
 bB (idx p2 x56) λx60=>
 bB (idx p2 v19) λx64=>
 bif (x60 !=x64) then
  some (.inr (.inr (s4:(List Int))))
 else
  bB (idx s4 v19) λx70=>
  bB (setI s4 v19 x56) λy414=>
  bB (lK p0 y414) λx74=>
  bB (mr x74 x46) λx76=>
  bB (idx p2 v19) λx81=>
  bB (bif (x81==0) then
  some ((x76.2.length:Int)==0)
  else
  some false) λp88=>
  bB (bif p88 then
  some true
  else
  bB (idx p2 v19) λx92=>
  bB (bif (x92==1) then
  some ((x76.1.length:Int)==0)
  else
  some false) λp99=>
  some p99) λp100=>
  bif p100 then
   some (.inr (.inl (y414:(List Int))))
  else
   bB (idx y414 v19) λx103=>
   bB (setI y414 v19 (-1)) λy427=>
   some (.inr (.inr (y427:(List Int))))
def fO (p0:Parity) (p2:(List Int)) (v19:Int) (s1:(List Int)):Option (Answer⊕(((List Int))⊕((List Int)))):=
 bB (idx p2 v19) λx30=>
 bB (idx p0.Arena.Owner v19) λx26=>
 bB (bif (x26 !=x30) then
 some true
 else
 bB (idx s1 v19) λx36=>
 some (decide (0<=x36))) λp39=>
 bif p39 then
  some (.inr (.inr (s1:(List Int))))
 else
  bB (idx p2 v19) λx44=>
  bB (jB (⟨p2,([]:List Int)⟩:Answer) x44) λx46=>
  bB (idx p0.Arena.Next v19) λx51=>
  bB (cntM (eF p0 p2 v19 x46 x51) x51.length 0 (s1:(List Int))) λq5=>
  aft (λr=>some (.inl r)) (λs6=>
   some (.inr (.inr (s6:(List Int))))) q5
def j5 (p0:Parity) (p1:(List Int)) (p2:(List Int)):Option (Answer):=
 bB (appS 8 ([]:List Int) p1) λx16=>
 bB (cntM (fO p0 p2) x16.length 0 (x16:(List Int))) λq2=>
 aft (λr=>some r) (λs3=>
  bB (appS 8 ([]:List Int) p2) λx108=>
  some ((⟨x108,s3⟩:Answer):Answer)) q2
def kZ (p0:Parity):Option (Answer):=
 bB (j8 p0) λx4=>
 bif (!x4) then
  some ((⟨([]:List Int),([]:List Int)⟩:Answer):Answer)
 else
  bB (lH p0.Arena) λx10=>
  bB (gC p0) λx12=>
  bB (j5 p0 x10 x12) λx13=>
  some (x13:Answer)
def fY (p0:Int) (c0:(List Place)) (c1:Int) (c2:Int) (c3:Sig) (c4:Int):Option (Bool):=
 bB (idx c0 p0) λx10=>
 bB (dB c3) λx16=>
 some ((x10.At==(IntKind.i64.wrap ((IntKind.i64.wrap (c1+(IntKind.i64.wrap (c2 * x16))))+c4))):Bool)
def cc (p0:(List Int)) (c1_0:(List Place)) (c1_1:Int) (c1_2:Int) (c1_3:Sig) (c1_4:Int) (v8:Int) (s1:Unit):Option (Int⊕((Unit)⊕(Unit))):=
 bB (idx p0 v8) λx14=>
 bB (fY x14 c1_0 c1_1 c1_2 c1_3 c1_4) λx16=>
 bif x16 then
  some (.inl (v8:Int))
 else
  some (.inr (.inr ()))
def bX (p0:(List Int)) (c1_0:(List Place)) (c1_1:Int) (c1_2:Int) (c1_3:Sig) (c1_4:Int):Option (Int):=
 bB (cntM (cc p0 c1_0 c1_1 c1_2 c1_3 c1_4) p0.length 0 ()) λq2=>
 aft (λr=>some r) (λs3=>
  some ((-1):Int)) q2
def fX (p0:(List Pair)) (p1:Int) (v9:Int) (s1:Unit):Option (Bool⊕((Unit)⊕(Unit))):=
 bB (idx p0 v9) λx11=>
 bB (jn x11.Ask p1) λx16=>
 bB (bif (!x16) then
 some true
 else
 bB (jn x11.Give p1) λx22=>
 some (!x22)) λp24=>
 bif p24 then
  some (.inl (false:Bool))
 else
  some (.inr (.inr ()))
def jA (p0:(List Pair)) (p1:Int):Option (Bool):=
 bB (cntM (fX p0 p1) p0.length 0 ()) λq2=>
 aft (λr=>some r) (λs3=>
  some (decide ((p0.length:Int)<=4):Bool)) q2
def dH (p0:Int) (c0:Int):Option (Bool):=
 bB (bif decide (p0<0) then
 some true
 else
 some (decide (c0<=p0))) λp10=>
 some (p10:Bool)
def ca (p0:(List Int)) (c1_0:Int) (v8:Int) (s1:Unit):Option (Int⊕((Unit)⊕(Unit))):=
 bB (idx p0 v8) λx14=>
 bB (dH x14 c1_0) λx16=>
 bif x16 then
  some (.inl (v8:Int))
 else
  some (.inr (.inr ()))
def cg (p0:(List Int)) (c1_0:Int):Option (Int):=
 bB (cntM (ca p0 c1_0) p0.length 0 ()) λq2=>
 aft (λr=>some r) (λs3=>
  some ((-1):Int)) q2
def cb (p0:(List Int)) (c1_0:Int):Option (Bool):=
 bB (cg p0 c1_0) λx7=>
 some (decide (0<=x7):Bool)
def gL (p0:(List Int)) (p1:Int):Option (Bool):=
 bB (cb p0 p1) λx7=>
 some ((!x7):Bool)
def jE (p0:Sig) (p1:Det) (v27:Int) (s1:Unit):Option (Bool⊕((Unit)⊕(Unit))):=
 bB (idx p1.Next v27) λx29=>
 bB (cS p0) λx34=>
 bB (bif ((x29.length:Int) !=x34) then
 some true
 else
 bB (gL x29 (p1.Next.length:Int)) λx39=>
 some (!x39)) λp41=>
 bif p41 then
  some (.inl (false:Bool))
 else
  some (.inr (.inr ()))
def ny (p0:Sig) (p1:Det):Option (Bool):=
 bB (bif decide ((p1.Next.length:Int)<1) then
 some true
 else
 some (decide (48<(p1.Next.length:Int)))) λp16=>
 bB (bif p16 then
 some true
 else
 bB (jA p1.Pairs (p1.Next.length:Int)) λx21=>
 some (!x21)) λp23=>
 bif p23 then
  some (false:Bool)
 else
  bB (cntM (jE p0 p1) p1.Next.length 0 ()) λq2=>
  aft (λr=>some r) (λs3=>
   some (true:Bool)) q2
def eW (p0:Sig) (p1:Det) (p2:Int) (p3:Int) (p4:Int) (v47:Int) (s1:(List Int)):Option ((List Int)⊕(((List Int))⊕((List Int)))):=
 bB (idx p1.Next p2) λx53=>
 bB (dB p0) λx57=>
 bB (idx x53 (IntKind.i64.wrap ((IntKind.i64.wrap (v47 * x57))+p3))) λx61=>
 bB (bif (x61==p4) then
  bB (appS 8 s1 ([v47]:List Int)) λx68=>
  some (x68:(List Int))
 else
  some (s1:(List Int))) λq4=>
 some (.inr (.inr (q4:(List Int))))
def iT (p0:Sig) (p1:Det) (p2:Int) (p3:Int) (p4:Int):Option ((List Int)):=
 bB (mh p0) λx14=>
 bB (bif (!x14) then
 some true
 else
 bB (ny p0 p1) λx19=>
 some (!x19)) λp21=>
 bB (bif p21 then
 some true
 else
 some (decide (p2<0))) λp25=>
 bB (bif p25 then
 some true
 else
 some (decide ((p1.Next.length:Int)<=p2))) λp32=>
 bB (bif p32 then
 some true
 else
 some (decide (p3<0))) λp36=>
 bB (bif p36 then
 some true
 else
 bB (dB p0) λx40=>
 some (decide (x40<=p3))) λp42=>
 bif p42 then
  some (([]:List Int):(List Int))
 else
  bB (nn p0.Out) λ_z46=>
  bB (rng (IntKind.i64.wrap (1 * 2 ^ (min (xh p0.Out) (IntKind.bits IntKind.i64))))) λ_=>
  bB (cntM (eW p0 p1 p2 p3 p4) (xh ((IntKind.i64.wrap (1 * 2 ^ (min (xh p0.Out) (IntKind.bits IntKind.i64))))-0)) 0 (([]:List Int):(List Int))) λq2=>
  aft (λr=>some r) (λs3=>
   some (s3:(List Int))) q2
def dm (p0:Sig) (x27:Det×Bool) (x42:Parity×(List Place)×Bool) (x57:Answer) (s1:(List Int)×Int×(List (List Int))×(List (List Int))) (x75:Place) (v82:Int) (s4:(List Int)×(List Int)×(List Int)):Option ((Machine×Bool)⊕(((List Int)×(List Int)×(List Int))⊕((List Int)×(List Int)×(List Int)))):=
 bB (idx s4.1 s1.2.1) λx90=>
 bB (idx x42.1.Arena.Next x90) λx92=>
 bB (bX x92 x42.2.1 (x27.1.Next.length:Int) x75.At p0 v82) λx95=>
 bB (idx s4.1 s1.2.1) λx102=>
 bB (idx x42.1.Arena.Next x102) λx104=>
 bB (idx x104 x95) λx107=>
 bB (idx x57.Plan x107) λx109=>
 bB (cw s4.1 x109) λx113=>
 bB (bif decide (x113<0) then
  bB (appS 8 s4.1 ([x109]:List Int)) λx121=>
  some (x121,((s4.1.length:Int):Int))
 else
  some (s4.1,x113)) λq7=>
 bB (appS 8 s4.2.1 ([q7.2]:List Int)) λx125=>
 bB (idx x42.2.1 x109) λx133=>
 bB (iT p0 x27.1 x75.At v82 x133.At) λx136=>
 bB (idx x136 0) λx137=>
 bB (appS 8 s4.2.2 ([x137]:List Int)) λx140=>
 some (.inr (.inr (q7.1,x125,x140)))
def d6 (p0:Sig) (x27:Det×Bool) (x42:Parity×(List Place)×Bool) (x57:Answer) (s1:(List Int)×Int×(List (List Int))×(List (List Int))):Option ((Machine×Bool)⊕(((List Int)×Int×(List (List Int))×(List (List Int)))⊕((List Int)×Int×(List (List Int))×(List (List Int))))):=
 bif decide (s1.2.1<(s1.1.length:Int)) then
  bB (idx s1.1 s1.2.1) λx73=>
  bB (idx x42.2.1 x73) λx75=>
  bB (dB p0) λx81=>
  bB (rng x81) λ_=>
  bB (cntM (dm p0 x27 x42 x57 s1 x75) (xh (x81-0)) 0 (s1.1,(([]:List Int):(List Int)),(([]:List Int):(List Int)))) λq5=>
  aft (λr=>some (.inl r)) (λs6=>
   bB (appS 24 s1.2.2.1 ([s6.2.1]:List (List Int))) λx146=>
   bB (appS 24 s1.2.2.2 ([s6.2.2]:List (List Int))) λx152=>
   some (.inr (.inr (s6.1,((IntKind.i64.wrap (s1.2.1+1)):Int),x146,x152)))) q5
 else
  some (.inr (.inl (s1.1,s1.2.1,s1.2.2.1,s1.2.2.2)))
def eh (p0:Sig) (p1:(List Clause)):Option (Machine×Bool):=
 bB (ee p0 p1) λx27=>
 bif (!x27.2) then
  some (((⟨([]:List (List Int)),([]:List (List Int))⟩:Machine):Machine),false)
 else
  bB (fq p0 x27.1) λx36=>
  bB (eY x36.1 x36.2 0) λx42=>
  bB (bif (!x42.2.2) then
  some true
  else
  bB (gC x42.1) λx50=>
  bB (idx x50 0) λx51=>
  some (x51 !=0)) λp54=>
  bif p54 then
   some (((⟨([]:List (List Int)),([]:List (List Int))⟩:Machine):Machine),false)
  else
   bB (kZ x42.1) λx57=>
   bB (bZ (d6 p0 x27 x42 x57) (2 ^ 64) ((([0]:List Int):(List Int)),(0:Int),(([]:List (List Int)):(List (List Int))),(([]:List (List Int)):(List (List Int))))) λq2=>
   aft (λr=>some r) (λs3=>
    bif decide (48<(s3.1.length:Int)) then
     some (((⟨([]:List (List Int)),([]:List (List Int))⟩:Machine):Machine),false)
    else
     some (((⟨s3.2.2.1,s3.2.2.2⟩:Machine):Machine),true)) q2
def fW (p0:(List Int)) (p1:(List Int)) (v5:Int) (s1:Unit):Option (Bool⊕((Unit)⊕(Unit))):=
 bB (idx p0 v5) λx19=>
 bB (idx p1 v5) λx23=>
 bif (x19 !=x23) then
  some (.inl (false:Bool))
 else
  some (.inr (.inr ()))
def gq (p0:(List Int)) (p1:(List Int)):Option (Bool):=
 bif ((p0.length:Int) !=(p1.length:Int)) then
  some (false:Bool)
 else
  bB (cntM (fW p0 p1) p0.length 0 ()) λq2=>
  aft (λr=>some r) (λs3=>
   some (true:Bool)) q2
def fk (p0:(List (List Int))) (p1:(List (List Int))) (v5:Int) (s1:Unit):Option (Bool⊕((Unit)⊕(Unit))):=
 bB (idx p0 v5) λx19=>
 bB (idx p1 v5) λx23=>
 bB (gq x19 x23) λx25=>
 bif (!x25) then
  some (.inl (false:Bool))
 else
  some (.inr (.inr ()))
def gv (p0:(List (List Int))) (p1:(List (List Int))):Option (Bool):=
 bif ((p0.length:Int) !=(p1.length:Int)) then
  some (false:Bool)
 else
  bB (cntM (fk p0 p1) p0.length 0 ()) λq2=>
  aft (λr=>some r) (λs3=>
   some (true:Bool)) q2
def fc (p0:Machine) (p1:Machine):Option (Bool):=
 bB (gv p0.Next p1.Next) λx9=>
 bif (!x9) then
  some (false:Bool)
 else
  bB (gv p0.Out p1.Out) λx15=>
  bif (!x15) then
   some (false:Bool)
  else
   some (true:Bool)
def jP (p0:Clause) (p1:Clause):Option (Bool):=
 bif (p0.Kind !=p1.Kind) then
  some (false:Bool)
 else
  bB (gq p0.A p1.A) λx14=>
  bif (!x14) then
   some (false:Bool)
  else
   bB (gq p0.B p1.B) λx20=>
   bif (!x20) then
    some (false:Bool)
   else
    some (true:Bool)
def eU (p0:(List Clause)) (p1:(List Clause)) (v5:Int) (s1:Unit):Option (Bool⊕((Unit)⊕(Unit))):=
 bB (idx p0 v5) λx19=>
 bB (idx p1 v5) λx23=>
 bB (jP x19 x23) λx25=>
 bif (!x25) then
  some (.inl (false:Bool))
 else
  some (.inr (.inr ()))
def iU (p0:(List Clause)) (p1:(List Clause)):Option (Bool):=
 bif ((p0.length:Int) !=(p1.length:Int)) then
  some (false:Bool)
 else
  bB (cntM (eU p0 p1) p0.length 0 ()) λq2=>
  aft (λr=>some r) (λs3=>
   some (true:Bool)) q2
def go  (v5:Int) (s1:Int×(List Int)):Option ((Int×(List Int))⊕((Int×(List Int))⊕(Int×(List Int)))):=
 bB (idx s1.2 v5) λx15=>
 bB (setI s1.2 v5 s1.1) λy468=>
 some (.inr (.inr (((IntKind.i64.wrap (s1.1+1)):Int),y468)))
def ek (p0:(List Int)) (p1:Int):Option (Int×(List Int)):=
 bB (cntM go p0.length 0 (p1,p0)) λq2=>
 aft (λr=>some r) (λs3=>
  some (s3.1,s3.2)) q2
def fG  (v5:Int) (s1:Int×(List Clause)):Option ((Int×(List Clause))⊕((Int×(List Clause))⊕(Int×(List Clause)))):=
 bB (idx s1.2 v5) λx15=>
 bB (setI s1.2 v5 ({ x15 with Kind:=s1.1 }:Clause)) λy466=>
 bB (idx y466 v5) λx21=>
 bB (ek x21.A (IntKind.i64.wrap (s1.1+1))) λx25=>
 bB (setI y466 v5 (⟨x21.Kind,x25.2,x21.B⟩:Clause)) λyb467=>
 bB (idx yb467 v5) λx28=>
 bB (ek x28.B x25.1) λx32=>
 bB (setI yb467 v5 (⟨x28.Kind,x28.A,x32.2⟩:Clause)) λyb469=>
 some (.inr (.inr (x32.1,yb469)))
def gl (p0:(List Clause)) (p1:Int):Option (Int×(List Clause)):=
 bB (cntM fG p0.length 0 (p1,p0)) λq2=>
 aft (λr=>some r) (λs3=>
  some (s3.1,s3.2)) q2
def fB  (v5:Int) (s1:Int×(List (List Int))):Option ((Int×(List (List Int)))⊕((Int×(List (List Int)))⊕(Int×(List (List Int))))):=
 bB (idx s1.2 v5) λx14=>
 bB (ek x14 s1.1) λx17=>
 bB (setI s1.2 v5 x17.2) λyb473=>
 some (.inr (.inr (x17.1,yb473)))
def eJ (p0:(List (List Int))) (p1:Int):Option (Int×(List (List Int))):=
 bB (cntM fB p0.length 0 (p1,p0)) λq2=>
 aft (λr=>some r) (λs3=>
  some (s3.1,s3.2)) q2
def fP (p0:Machine) (p1:Int):Option (Int×(List (List Int))×(List (List Int))):=
 bB (eJ p0.Next p1) λx8=>
 bB (eJ p0.Out x8.1) λx12=>
 some (x12.1,x8.2,x12.2)
def gp (p0:(List Int)) (v5:Int) (s1:Int):Option (Int⊕((Int)⊕(Int))):=
 bB (idx p0 v5) λx14=>
 bif (x14 !=s1) then
  some (.inl ((-1):Int))
 else
  some (.inr (.inr ((IntKind.i64.wrap (s1+1)):Int)))
def gY (p0:(List Int)) (p1:Int):Option (Int):=
 bB (cntM (gp p0) p0.length 0 (p1:Int)) λq2=>
 aft (λr=>some r) (λs3=>
  some (s3:Int)) q2
def fF (p0:(List (List Int))) (v5:Int) (s1:Int):Option (Int⊕((Int)⊕(Int))):=
 bB (idx p0 v5) λx14=>
 bB (gY x14 s1) λx17=>
 bif decide (x17<0) then
  some (.inl ((-1):Int))
 else
  some (.inr (.inr (x17:Int)))
def eN (p0:(List (List Int))) (p1:Int):Option (Int):=
 bB (cntM (fF p0) p0.length 0 (p1:Int)) λq2=>
 aft (λr=>some r) (λs3=>
  some (s3:Int)) q2
def eE (p0:Machine) (p1:Int):Option (Int):=
 bB (eN p0.Next p1) λx8=>
 bif decide (x8<0) then
  some ((-1):Int)
 else
  bB (eN p0.Out x8) λx14=>
  bif decide (x14<0) then
   some ((-1):Int)
  else
   some (x14:Int)
def dh (p0:Sig) (p1:(List Clause)):Option (Bool):=
 bB (jc p1 1048576) λx18=>
 bif decide (x18<0) then
  some (true:Bool)
 else
  bB (mg p0) λx23=>
  bB (ej p1) λx25=>
  bB (fl x23 x25) λx26=>
  bB (ej p1) λx30=>
  bB (mg p0) λx33=>
  bB (eh x33 x30) λx35=>
  bB (fc x35.1 x26.1) λx40=>
  bB (bif (!x40) then
  some true
  else
  some (x35.2 !=x26.2)) λp46=>
  bif p46 then
   some (false:Bool)
  else
   bB (ej p1) λx49=>
   bB (iU x30 x49) λx50=>
   bif (!x50) then
    some (false:Bool)
   else
    bB (gl x30 1) λx54=>
    bB (bif decide (x54.1<0) then
    some true
    else
    bB (fc x35.1 x26.1) λx60=>
    some (!x60)) λp62=>
    bB (bif p62 then
    some true
    else
    some (x35.2 !=x26.2)) λp67=>
    bif p67 then
     some (false:Bool)
    else
     bB (fP x35.1 1) λx70=>
     bB (eE (⟨x70.2.1,x70.2.2⟩:Machine) 1) λx73=>
     bif decide (x73<0) then
      some (false:Bool)
     else
      bif (x73 !=x70.1) then
       some (false:Bool)
      else
       bB (mg p0) λx81=>
       bB (ej p1) λx83=>
       bB (eh x81 x83) λx84=>
       bB (fc x84.1 x26.1) λx89=>
       bB (bif (!x89) then
       some true
       else
       some (x84.2 !=x26.2)) λp95=>
       bif p95 then
        some (false:Bool)
       else
        bB (eE (⟨x70.2.1,x70.2.2⟩:Machine) 1) λx98=>
        bif decide (x98<0) then
         some (false:Bool)
        else
         bif (x98 !=x70.1) then
          some (false:Bool)
         else
          some (true:Bool)
end Go.Proofs.YtpcjbkgbnoocaaaGreat
