/- The functions on data. By program. -/
import Derived.Test.YtpcjbkgbnoocaaaTypesFR
set_option linter.unusedVariables false
set_option linter.unusedSimpArgs false
open Option renaming bind → br
open Int renaming toNat → vu
namespace Go.Proofs.Ytpcjbkgbnoocaaa
open Go Go.Wk Go.Proofs
set_option maxRecDepth 100000
set_option maxHeartbeats 1000000
def rF (p0:(List Int)):Option (Bool):=
 some (decide (4096<(p0.length:Int)):Bool)
def i9 (p0:(List Int)) (v4:Int) (s1:Int):Option (l1Cur⊕((Int)⊕(Int))):=
 br (idx p0 v4) λx18=>
 some (.inr (.inr ((IntKind.i64.wrap (BitVec.toNat (BitVec.ofInt (IntKind.bits IntKind.i64) (IntKind.i64.wrap ((IntKind.i64.wrap ((IntKind.i64.wrap (s1 * 313))+(IntKind.i64.wrap x18)))+11)) &&& BitVec.ofInt (IntKind.bits IntKind.i64) 1073741823))):Int)))
def ms (p0:(List Int)):Option (l1Cur):=
 br (cntM (i9 p0) p0.length 0 ((IntKind.i64.wrap (560017+(p0.length:Int))):Int)) λq2=>
 aft (λr=>some r) (λs3=>
  some ((⟨p0,0,s3⟩:l1Cur):l1Cur)) q2
def gg (p0:l1Cur):Option (Int×Int×Int):=
 br (bif decide (p0.i<(p0.b.length:Int)) then
  br (idx p0.b p0.i) λx44=>
  some (((IntKind.i64.wrap (BitVec.toNat (BitVec.ofInt (IntKind.bits IntKind.i64) (IntKind.i64.wrap ((IntKind.i64.wrap (BitVec.toNat (BitVec.ofInt (IntKind.bits IntKind.i64) (IntKind.i64.wrap (BitVec.toNat (BitVec.ofInt (IntKind.bits IntKind.i64) (Int.fdiv (IntKind.i64.wrap ((IntKind.i64.wrap (p0.h * 6364136223846793005))+1442695040888963407)) (2 ^ (min (vu 33) (IntKind.bits IntKind.i64)))) ^^^ BitVec.ofInt (IntKind.bits IntKind.i64) (Int.fdiv (IntKind.i64.wrap ((IntKind.i64.wrap (p0.h * 6364136223846793005))+1442695040888963407)) (2 ^ (min (vu 45) (IntKind.bits IntKind.i64))))))) &&& BitVec.ofInt (IntKind.bits IntKind.i64) 255)))+(IntKind.i64.wrap x44))) &&& BitVec.ofInt (IntKind.bits IntKind.i64) 255))):Int),((IntKind.i64.wrap (p0.i+1)):Int))
 else
  some (((IntKind.i64.wrap (BitVec.toNat (BitVec.ofInt (IntKind.bits IntKind.i64) (IntKind.i64.wrap (BitVec.toNat (BitVec.ofInt (IntKind.bits IntKind.i64) (Int.fdiv (IntKind.i64.wrap ((IntKind.i64.wrap (p0.h * 6364136223846793005))+1442695040888963407)) (2 ^ (min (vu 33) (IntKind.bits IntKind.i64)))) ^^^ BitVec.ofInt (IntKind.bits IntKind.i64) (Int.fdiv (IntKind.i64.wrap ((IntKind.i64.wrap (p0.h * 6364136223846793005))+1442695040888963407)) (2 ^ (min (vu 45) (IntKind.bits IntKind.i64))))))) &&& BitVec.ofInt (IntKind.bits IntKind.i64) 255))):Int),p0.i)) λq1=>
 some (q1.1,q1.2,((IntKind.i64.wrap ((IntKind.i64.wrap (p0.h * 6364136223846793005))+1442695040888963407)):Int))
def cd (p0:l1Cur) (p1:Int):Option (Int×Int×Int):=
 bif decide (p1<=0) then
  some ((0:Int),p0.i,p0.h)
 else
  bif decide (p1<=256) then
   br (gg p0) λx14=>
   br (nz p1) λ_z16=>
   some (((Int.tmod x14.1 p1):Int),x14.2.1,x14.2.2)
  else
   br (gg p0) λx18=>
   br (gg (⟨p0.b,x18.2.1,x18.2.2⟩:l1Cur)) λx20=>
   br (gg (⟨p0.b,x20.2.1,x20.2.2⟩:l1Cur)) λx22=>
   br (gg (⟨p0.b,x22.2.1,x22.2.2⟩:l1Cur)) λx24=>
   br (nz p1) λ_z36=>
   some (((Int.tmod (IntKind.i64.wrap ((IntKind.i64.wrap ((IntKind.i64.wrap ((IntKind.i64.wrap (x18.1 * 16777216))+(IntKind.i64.wrap (x20.1 * 65536))))+(IntKind.i64.wrap (x22.1 * 256))))+x24.1)) p1):Int),x24.2.1,x24.2.2)
def cY (p0:l1Cur) (p1:Int):Option (Bool×Int×Int):=
 br (cd p0 p1) λx7=>
 some (((x7.1==0):Bool),x7.2.1,x7.2.2)
def ia (p0:l1Cur) (p1:Int) (p2:Int):Option (Int×Int×Int):=
 br (cd p0 (IntKind.i64.wrap ((IntKind.i64.wrap (p2-p1))+1))) λx13=>
 some (((IntKind.i64.wrap (p1+x13.1)):Int),x13.2.1,x13.2.2)
def fW (p0:l1Cur):Option (Sig×Int×Int):=
 br (cY p0 4) λx6=>
 br (bif x6.1 then
  br (cd (⟨p0.b,x6.2.1,x6.2.2⟩:l1Cur) 2) λx8=>
  br (cd (⟨p0.b,x8.2.1,x8.2.2⟩:l1Cur) 2) λx11=>
  some (x11.2.1,x11.2.2,((IntKind.i64.wrap (1+x8.1)):Int),((IntKind.i64.wrap (1+x11.1)):Int))
 else
  some (x6.2.1,x6.2.2,(1:Int),(1:Int))) λq1=>
 br (cY (⟨p0.b,q1.1,q1.2.1⟩:l1Cur) 20) λx15=>
 br (bif x15.1 then
  br (ia (⟨p0.b,x15.2.1,x15.2.2⟩:l1Cur) 0 3) λx17=>
  some (x17.2.1,x17.2.2,x17.1)
 else
  some (x15.2.1,x15.2.2,q1.2.2.2)) λq2=>
 some (((⟨q1.2.2.1,q2.2.2⟩:Sig):Sig),q2.1,q2.2.1)
def dT (p0:Int) (p1:Int) (p2:Int):Option (Bool):=
 br (bif decide (p1<=p0) then
 some (decide (p0<=p2))
 else
 some false) λp14=>
 some (p14:Bool)
def gQ (p0:Sig):Option (Bool):=
 br (dT p0.In 1 2) λx5=>
 br (bif x5 then
 br (dT p0.Out 1 2) λx9=>
 some x9
 else
 some false) λp10=>
 some (p10:Bool)
def ed  (s1:Int×Int):Option (Int⊕((Int×Int)⊕(Int×Int))):=
 bif decide (0<s1.1) then
  some (.inr (.inr (((IntKind.i64.wrap (s1.1-1)):Int),((IntKind.i64.wrap (s1.2 * 2)):Int))))
 else
  some (.inr (.inl (s1.1,s1.2)))
def cG (p0:Int):Option (Int):=
 br (bP ed (2 ^ 64) (p0,(1:Int))) λq2=>
 aft (λr=>some r) (λs3=>
  some (s3.2:Int)) q2
def cq (p0:Sig):Option (Int):=
 br (gQ p0) λx4=>
 bif (!x4) then
  some (0:Int)
 else
  br (cG (IntKind.i64.wrap (p0.In+p0.Out))) λx11=>
  some (x11:Int)
def eJ (p0:Int) (p1:Int):Option (Int):=
 bif decide (p1<p0) then
  some (p0:Int)
 else
  some (p1:Int)
def eb (p0:l1Cur) (v6:Int) (s1:(List Int)×Int×Int):Option (((List Int)×Int×Int)⊕(((List Int)×Int×Int)⊕((List Int)×Int×Int))):=
 br (cY (⟨p0.b,s1.2.1,s1.2.2⟩:l1Cur) 2) λx14=>
 br (bif x14.1 then
  br (appS 8 s1.1 ([v6]:List Int)) λx18=>
  some (x18:(List Int))
 else
  some (s1.1:(List Int))) λq4=>
 some (.inr (.inr (q4,x14.2.1,x14.2.2)))
def eK (p0:l1Cur) (p1:Int):Option ((List Int)×Int×Int):=
 br (rng p1) λ_=>
 br (cntM (eb p0) (vu (p1-0)) 0 ((([]:List Int):(List Int)),p0.i,p0.h)) λq2=>
 aft (λr=>some r) (λs3=>
  some (s3.1,s3.2.1,s3.2.2)) q2
def gA (p0:Int):Option (Bool):=
 br (bif (p0==2) then
 some true
 else
 some (p0==3)) λp8=>
 br (bif p8 then
 some true
 else
 some (p0==7)) λp12=>
 some (p12:Bool)
def iD (p0:l1Cur) (p1:Sig):Option (Clause×Int×Int):=
 br (cq p1) λx8=>
 br (eJ x8 2) λx9=>
 br (cd p0 7) λx11=>
 br (eK (⟨p0.b,x11.2.1,x11.2.2⟩:l1Cur) x9) λx15=>
 br (gA (IntKind.i64.wrap (1+x11.1))) λx19=>
 br (bif x19 then
  br (eK (⟨p0.b,x15.2.1,x15.2.2⟩:l1Cur) x9) λx22=>
  some (x22.2.1,x22.2.2,x22.1)
 else
  some (x15.2.1,x15.2.2,(([]:List Int):(List Int)))) λq1=>
 some (((⟨(IntKind.i64.wrap (1+x11.1)),x15.1,q1.2.2⟩:Clause):Clause),q1.1,q1.2.1)
def kv (p0:l1Cur):Option (Int×Int×Int):=
 br (cd p0 10) λx5=>
 br (idx ([(-1),0,1,2147483648,(-2147483648),1099511627776,4611686018427387904,(-4611686018427387904),9223372036854775807,(-9223372036854775808)]:List Int) x5.1) λx6=>
 some (x6,x5.2.1,x5.2.2)
def jf (p0:Int) (p1:Int):Option (Int):=
 bif decide (p0<p1) then
  some (p0:Int)
 else
  some (p1:Int)
def jm (p0:l1Cur) (p1:Int):Option (Int×Int×Int):=
 br (cY p0 10) λx6=>
 bif x6.1 then
  br (kv (⟨p0.b,x6.2.1,x6.2.2⟩:l1Cur)) λx11=>
  br (cd (⟨p0.b,x11.2.1,x11.2.2⟩:l1Cur) 4) λx14=>
  br (idx ([(-1),p1,(IntKind.i64.wrap (p1+1)),x11.1]:List Int) x14.1) λx15=>
  some (x15,x14.2.1,x14.2.2)
 else
  br (cY (⟨p0.b,x6.2.1,x6.2.2⟩:l1Cur) 2) λx18=>
  bif x18.1 then
   br (jf p1 4) λx21=>
   br (cd (⟨p0.b,x18.2.1,x18.2.2⟩:l1Cur) (IntKind.i64.wrap (x21+1))) λx23=>
   some (x23.1,x23.2.1,x23.2.2)
  else
   br (cd (⟨p0.b,x18.2.1,x18.2.2⟩:l1Cur) (IntKind.i64.wrap (p1+1))) λx27=>
   some (x27.1,x27.2.1,x27.2.2)
def gc (p0:l1Cur) (p1:Sig):Option (Clause×Int×Int):=
 br (iD p0 p1) λx8=>
 br (cY (⟨p0.b,x8.2.1,x8.2.2⟩:l1Cur) 10) λx10=>
 br (bif x10.1 then
  br (cd (⟨p0.b,x10.2.1,x10.2.2⟩:l1Cur) 3) λx12=>
  br (bif (x12.1==0) then
   br (ia (⟨p0.b,x12.2.1,x12.2.2⟩:l1Cur) 0 8) λx16=>
   some (x16.2.1,x16.2.2,x16.1,x8.1.A,x8.1.B)
  else
   br (bif (x12.1==1) then
    br (jm (⟨p0.b,x12.2.1,x12.2.2⟩:l1Cur) 15) λx23=>
    br (appS 8 x8.1.A ([x23.1]:List Int)) λx25=>
    some (x23.2.1,x23.2.2,x25,x8.1.B)
   else
    br (bif (x12.1==2) then
     br (jm (⟨p0.b,x12.2.1,x12.2.2⟩:l1Cur) 15) λx32=>
     br (appS 8 x8.1.B ([x32.1]:List Int)) λx34=>
     some (x32.2.1,x32.2.2,x34)
    else
     some (x12.2.1,x12.2.2,x8.1.B)) λq4=>
    some (q4.1,q4.2.1,x8.1.A,q4.2.2)) λq3=>
   some (q3.1,q3.2.1,x8.1.Kind,q3.2.2.1,q3.2.2.2)) λq2=>
  some (q2.1,q2.2.1,q2.2.2.1,q2.2.2.2.1,q2.2.2.2.2)
 else
  some (x10.2.1,x10.2.2,x8.1.Kind,x8.1.A,x8.1.B)) λq1=>
 some (((⟨q1.2.2.1,q1.2.2.2.1,q1.2.2.2.2⟩:Clause):Clause),q1.1,q1.2.1)
def ec (p0:l1Cur) (p1:Sig) (s1:(List Clause)×Int×Int×Int):Option (((List Clause)×Int×Int)⊕(((List Clause)×Int×Int×Int)⊕((List Clause)×Int×Int×Int))):=
 bif decide (0<s1.2.1) then
  br (iD (⟨p0.b,s1.2.2.1,s1.2.2.2⟩:l1Cur) p1) λx21=>
  br (appS 56 s1.1 ([x21.1]:List Clause)) λx23=>
  some (.inr (.inr (x23,((IntKind.i64.wrap (s1.2.1-1)):Int),x21.2.1,x21.2.2)))
 else
  some (.inr (.inl (s1.1,s1.2.1,s1.2.2.1,s1.2.2.2)))
def fM (p0:l1Cur) (p1:Sig) (p2:Int):Option ((List Clause)×Int×Int):=
 br (cd p0 (IntKind.i64.wrap (p2+1))) λx13=>
 br (bP (ec p0 p1) (2 ^ 64) ((([]:List Clause):(List Clause)),x13.1,x13.2.1,x13.2.2)) λq2=>
 aft (λr=>some r) (λs3=>
  br (cY (⟨p0.b,s3.2.2.1,s3.2.2.2⟩:l1Cur) 20) λx25=>
  br (bif x25.1 then
   br (gc (⟨p0.b,x25.2.1,x25.2.2⟩:l1Cur) p1) λx29=>
   br (appS 56 s3.1 ([x29.1]:List Clause)) λx31=>
   some (x31,x29.2.1,x29.2.2)
  else
   some (s3.1,x25.2.1,x25.2.2)) λq4=>
  some (q4.1,q4.2.1,q4.2.2)) q2
def fQ (p0:(List Int)) (p1:Int) (v5:Int) (s1:Unit):Option (Bool⊕((Unit)⊕(Unit))):=
 br (idx p0 v5) λx14=>
 br (dT x14 0 (IntKind.i64.wrap (p1-1))) λx18=>
 br (bif (!x18) then
 some true
 else
 br (bif decide (0<v5) then
 br (idx p0 v5) λx26=>
 br (idx p0 (IntKind.i64.wrap (v5-1))) λx31=>
 some (decide (x26<=x31))
 else
 some false) λp34=>
 some p34) λp35=>
 bif p35 then
  some (.inl (false:Bool))
 else
  some (.inr (.inr ()))
def jK (p0:(List Int)) (p1:Int):Option (Bool):=
 br (cntM (fQ p0 p1) p0.length 0 ()) λq2=>
 aft (λr=>some r) (λs3=>
  some (true:Bool)) q2
def jh (p0:(List Int)) (p1:Int):Option (Bool):=
 br (bif decide ((p0.length:Int)<=p1) then
 br (jK p0 p1) λx12=>
 some x12
 else
 some false) λp13=>
 some (p13:Bool)
def gx (p0:Sig) (p1:Clause):Option (Bool):=
 br (gQ p0) λx7=>
 br (bif (!x7) then
 some true
 else
 br (dT p1.Kind 1 7) λx12=>
 some (!x12)) λp14=>
 bif p14 then
  some (false:Bool)
 else
  br (cq p0) λx16=>
  br (jh p1.A x16) λx20=>
  br (bif x20 then
  br (jh p1.B x16) λx25=>
  some x25
  else
  some false) λp26=>
  br (bif p26 then
  br (gA p1.Kind) λx30=>
  br (bif x30 then
  some true
  else
  some ((p1.B.length:Int)==0)) λp36=>
  some p36
  else
  some false) λp37=>
  some (p37:Bool)
def ez (p0:Sig) (p1:(List Clause)) (v5:Int) (s1:Unit):Option (Bool⊕((Unit)⊕(Unit))):=
 br (idx p1 v5) λx23=>
 br (gx p0 x23) λx25=>
 bif (!x25) then
  some (.inl (false:Bool))
 else
  some (.inr (.inr ()))
def eF (p0:Sig) (p1:(List Clause)):Option (Bool):=
 br (gQ p0) λx7=>
 br (bif (!x7) then
 some true
 else
 some (decide (3<(p1.length:Int)))) λp13=>
 bif p13 then
  some (false:Bool)
 else
  br (cntM (ez p0 p1) p1.length 0 ()) λq2=>
  aft (λr=>some r) (λs3=>
   some (true:Bool)) q2
def jS (p0:Int):Option (Pair):=
 br (bif (p0==1) then
  some (true:Bool)
 else
  some ((p0==5):Bool)) λq1=>
 bif q1 then
  some ((⟨([1]:List Int),([]:List Int)⟩:Pair):Pair)
 else
  bif (p0==2) then
   some ((⟨([2]:List Int),([]:List Int)⟩:Pair):Pair)
  else
   bif (p0==3) then
    some ((⟨([1]:List Int),([0]:List Int)⟩:Pair):Pair)
   else
    bif (p0==4) then
     some ((⟨([0,1]:List Int),([1]:List Int)⟩:Pair):Pair)
    else
     bif (p0==6) then
      some ((⟨([0]:List Int),([]:List Int)⟩:Pair):Pair)
     else
      some ((⟨([2,3]:List Int),([1,3]:List Int)⟩:Pair):Pair)
def g8 (p0:Int):Option (Int):=
 bif (p0==2) then
  some (3:Int)
 else
  bif (p0==7) then
   some (4:Int)
  else
   some (2:Int)
def je (p0:(List Int)) (p1:Int) (v5:Int) (s1:Unit):Option (Bool⊕((Unit)⊕(Unit))):=
 br (idx p0 v5) λx14=>
 bif (x14==p1) then
  some (.inl (true:Bool))
 else
  some (.inr (.inr ()))
def jq (p0:(List Int)) (p1:Int):Option (Bool):=
 br (cntM (je p0 p1) p0.length 0 ()) λq2=>
 aft (λr=>some r) (λs3=>
  some (false:Bool)) q2
def gh (p0:Bool):Option (Int):=
 bif p0 then
  some (1:Int)
 else
  some (0:Int)
def jE (p0:Clause) (p1:Int) (p2:Int):Option (Int):=
 br (jq p0.A p2) λx12=>
 br (gh x12) λx13=>
 br (jq p0.B p2) λx17=>
 br (gh x17) λx18=>
 bif (p0.Kind==1) then
  br (eJ p1 (IntKind.i64.wrap (1-x13))) λx26=>
  some (x26:Int)
 else
  bif (p0.Kind==2) then
   br (bif (p1==2) then
   some true
   else
   br (bif (p1==1) then
   some (x18==0)
   else
   some false) λp37=>
   some p37) λp38=>
   bif p38 then
    some (2:Int)
   else
    some (x13:Int)
  else
   bif (p0.Kind==3) then
    bif (x18==1) then
     some (0:Int)
    else
     br (eJ p1 x13) λx46=>
     some (x46:Int)
   else
    bif (p0.Kind==4) then
     some (x13:Int)
    else
     bif (p0.Kind==5) then
      some ((IntKind.i64.wrap (1-x13)):Int)
     else
      bif (p0.Kind==6) then
       br (eJ p1 x13) λx58=>
       some (x58:Int)
      else
       some ((IntKind.i64.wrap ((IntKind.i64.wrap (2 * x13))+x18)):Int)
def eB (p0:Sig) (p1:Clause) (s1:Int×(List (List Int))) (s4:(List Int)×Int):Option (Det⊕(((List Int)×Int)⊕((List Int)×Int))):=
 br (cq p0) λx29=>
 bif decide (s4.2<x29) then
  br (jE p1 s1.1 s4.2) λx37=>
  br (appS 8 s4.1 ([x37]:List Int)) λx39=>
  some (.inr (.inr (x39,((IntKind.i64.wrap (s4.2+1)):Int))))
 else
  some (.inr (.inl (s4.1,s4.2)))
def eA (p0:Sig) (p1:Clause) (s1:Int×(List (List Int))):Option (Det⊕((Int×(List (List Int)))⊕(Int×(List (List Int))))):=
 br (g8 p1.Kind) λx22=>
 bif decide (s1.1<x22) then
  br (bP (eB p0 p1 s1) (2 ^ 64) ((([]:List Int):(List Int)),(0:Int))) λq5=>
  aft (λr=>some (.inl r)) (λs6=>
   br (appS 24 s1.2 ([s6.1]:List (List Int))) λx44=>
   some (.inr (.inr (((IntKind.i64.wrap (s1.1+1)):Int),x44)))) q5
 else
  some (.inr (.inl (s1.1,s1.2)))
def gY (p0:Sig) (p1:Clause):Option (Det):=
 br (gx p0 p1) λx11=>
 bif (!x11) then
  some ((⟨([]:List (List Int)),([]:List Pair)⟩:Det):Det)
 else
  br (jS p1.Kind) λx16=>
  br (bP (eA p0 p1) (2 ^ 64) ((0:Int),(([]:List (List Int)):(List (List Int))))) λq2=>
  aft (λr=>some r) (λs3=>
   some ((⟨s3.2,([x16]:List Pair)⟩:Det):Det)) q2
def e6 (p0:(List Int)) (p1:Int) (v5:Int) (s1:Unit):Option (Bool⊕((Unit)⊕(Unit))):=
 br (idx p0 v5) λx14=>
 br (dT x14 0 (IntKind.i64.wrap (p1-1))) λx18=>
 bif (!x18) then
  some (.inl (false:Bool))
 else
  some (.inr (.inr ()))
def em (p0:(List Int)) (p1:Int):Option (Bool):=
 br (cntM (e6 p0 p1) p0.length 0 ()) λq2=>
 aft (λr=>some r) (λs3=>
  some (true:Bool)) q2
def lA (p0:(List Int)) (p1:Int):Option (Bool):=
 br (dT p1 0 256) λx6=>
 br (bif x6 then
 br (jh p0 p1) λx10=>
 some x10
 else
 some false) λp11=>
 some (p11:Bool)
def fO (p0:(List Pair)) (p1:Int) (v5:Int) (s1:Unit):Option (Bool⊕((Unit)⊕(Unit))):=
 br (idx p0 v5) λx22=>
 br (lA x22.Ask p1) λx26=>
 br (bif (!x26) then
 some true
 else
 br (idx p0 v5) λx31=>
 br (lA x31.Give p1) λx35=>
 some (!x35)) λp37=>
 bif p37 then
  some (.inl (false:Bool))
 else
  some (.inr (.inr ()))
def iB (p0:(List Pair)) (p1:Int):Option (Bool):=
 br (dT p1 0 256) λx7=>
 br (bif (!x7) then
 some true
 else
 some (decide (4<(p0.length:Int)))) λp13=>
 bif p13 then
  some (false:Bool)
 else
  br (cntM (fO p0 p1) p0.length 0 ()) λq2=>
  aft (λr=>some r) (λs3=>
   some (true:Bool)) q2
def jb (p0:Sig) (p1:Det) (v6:Int) (s1:Unit):Option (Bool⊕((Unit)⊕(Unit))):=
 br (idx p1.Next v6) λx28=>
 br (cq p0) λx32=>
 br (bif ((x28.length:Int) !=x32) then
 some true
 else
 br (idx p1.Next v6) λx38=>
 br (em x38 (p1.Next.length:Int)) λx41=>
 some (!x41)) λp43=>
 bif p43 then
  some (.inl (false:Bool))
 else
  some (.inr (.inr ()))
def ir (p0:Sig) (p1:Det):Option (Bool):=
 br (gQ p0) λx11=>
 br (bif (!x11) then
 some true
 else
 br (dT (p1.Next.length:Int) 1 48) λx15=>
 some (!x15)) λp17=>
 bif p17 then
  some (false:Bool)
 else
  br (cntM (jb p0 p1) p1.Next.length 0 ()) λq2=>
  aft (λr=>some r) (λs3=>
   br (iB p1.Pairs (p1.Next.length:Int)) λx47=>
   some (x47:Bool)) q2
def eW (p0:(List (List Int))) (p1:Int) (p2:Int) (v7:Int) (s1:Unit):Option (Int⊕((Unit)⊕(Unit))):=
 br (idx p0 v7) λx16=>
 br (idx x16 0) λx18=>
 br (bif (x18==p1) then
 br (idx p0 v7) λx25=>
 br (idx x25 1) λx27=>
 some (x27==p2)
 else
 some false) λp31=>
 bif p31 then
  some (.inl (v7:Int))
 else
  some (.inr (.inr ()))
def jd (p0:(List (List Int))) (p1:Int) (p2:Int):Option (Int):=
 br (cntM (eW p0 p1 p2) p0.length 0 ()) λq2=>
 aft (λr=>some r) (λs3=>
  some ((-1):Int)) q2
def ff (p0:(List Pair)) (p1:(List (List Int))) (p2:Int) (v8:Int) (v10:Int) (s4:(List Int)×(List Int)):Option ((List Pair)⊕(((List Int)×(List Int))⊕((List Int)×(List Int)))):=
 br (idx p0 v8) λx27=>
 br (idx p1 v10) λx32=>
 br (idx x32 p2) λx35=>
 br (jq x27.Ask x35) λx37=>
 br (bif x37 then
  br (appS 8 s4.1 ([v10]:List Int)) λx42=>
  some (x42:(List Int))
 else
  some (s4.1:(List Int))) λq7=>
 br (idx p0 v8) λx46=>
 br (idx p1 v10) λx51=>
 br (idx x51 p2) λx54=>
 br (jq x46.Give x54) λx56=>
 br (bif x56 then
  br (appS 8 s4.2 ([v10]:List Int)) λx61=>
  some (x61:(List Int))
 else
  some (s4.2:(List Int))) λq8=>
 some (.inr (.inr (q7,q8)))
def eT (p0:(List Pair)) (p1:(List (List Int))) (p2:Int) (v8:Int) (s1:(List Pair)):Option ((List Pair)⊕(((List Pair))⊕((List Pair)))):=
 br (cntM (ff p0 p1 p2 v8) p1.length 0 ((([]:List Int):(List Int)),(([]:List Int):(List Int)))) λq5=>
 aft (λr=>some (.inl r)) (λs6=>
  br (appS 48 s1 ([(⟨s6.1,s6.2⟩:Pair)]:List Pair)) λx66=>
  some (.inr (.inr (x66:(List Pair))))) q5
def gG (p0:(List Pair)) (p1:(List (List Int))) (p2:Int):Option ((List Pair)):=
 br (cntM (eT p0 p1 p2) p0.length 0 (([]:List Pair):(List Pair))) λq2=>
 aft (λr=>some r) (λs3=>
  some (s3:(List Pair))) q2
def du (p0:Det) (p1:Det) (s1:(List (List Int))×Int×(List (List Int))) (v12:Int) (s4:(List (List Int))×(List Int)):Option ((Det×Bool)⊕(((List (List Int))×(List Int))⊕((List (List Int))×(List Int)))):=
 br (idx s4.1 s1.2.1) λx35=>
 br (idx x35 0) λx37=>
 br (idx p0.Next x37) λx39=>
 br (idx x39 v12) λx42=>
 br (idx s4.1 s1.2.1) λx48=>
 br (idx x48 1) λx50=>
 br (idx p1.Next x50) λx52=>
 br (idx x52 v12) λx55=>
 br (jd s4.1 x42 x55) λx60=>
 br (bif decide (x60<0) then
  br (appS 24 s4.1 ([([x42,x55]:List Int)]:List (List Int))) λx70=>
  some (x70,((s4.1.length:Int):Int))
 else
  some (s4.1,x60)) λq7=>
 br (appS 8 s4.2 ([q7.2]:List Int)) λx74=>
 some (.inr (.inr (q7.1,x74)))
def eE (p0:Det) (p1:Det) (p2:Int) (s1:(List (List Int))×Int×(List (List Int))):Option ((Det×Bool)⊕(((List (List Int))×Int×(List (List Int)))⊕((List (List Int))×Int×(List (List Int))))):=
 bif decide (s1.2.1<(s1.1.length:Int)) then
  br (rng p2) λ_=>
  br (cntM (du p0 p1 s1) (vu (p2-0)) 0 (s1.1,(([]:List Int):(List Int)))) λq5=>
  aft (λr=>some (.inl r)) (λs6=>
   bif decide (48<(s6.1.length:Int)) then
    some (.inl (((⟨([]:List (List Int)),([]:List Pair)⟩:Det):Det),false))
   else
    br (appS 24 s1.2.2 ([s6.2]:List (List Int))) λx83=>
    some (.inr (.inr (s6.1,((IntKind.i64.wrap (s1.2.1+1)):Int),x83)))) q5
 else
  some (.inr (.inl (s1.1,s1.2.1,s1.2.2)))
def dR (p0:Det) (p1:Det) (p2:Int):Option (Det×Bool):=
 br (bP (eE p0 p1 p2) (2 ^ 64) ((([([0,0]:List Int)]:List (List Int)):(List (List Int))),(0:Int),(([]:List (List Int)):(List (List Int))))) λq2=>
 aft (λr=>some r) (λs3=>
  br (gG p0.Pairs s3.1 0) λx88=>
  br (gG p1.Pairs s3.1 1) λx92=>
  br (appS 48 x88 x92) λx93=>
  some (((⟨s3.2.2,x93⟩:Det):Det),true)) q2
def g6 (p0:Sig) (p1:Det) (p2:Det):Option (Det×Bool):=
 br (ir p0 p1) λx10=>
 br (bif (!x10) then
 some true
 else
 br (ir p0 p2) λx15=>
 some (!x15)) λp17=>
 br (bif p17 then
 some true
 else
 some (decide (4<(IntKind.i64.wrap ((p1.Pairs.length:Int)+(p2.Pairs.length:Int)))))) λp27=>
 bif p27 then
  some (((⟨([]:List (List Int)),([]:List Pair)⟩:Det):Det),false)
 else
  br (cq p0) λx32=>
  br (dR p1 p2 x32) λx33=>
  some (x33.1,x33.2)
def dw (p0:Sig) (p1:(List Clause)) (v7:Int) (s1:(List (List Int))×(List Pair)):Option ((Det×Bool)⊕(((List (List Int))×(List Pair))⊕((List (List Int))×(List Pair)))):=
 br (idx p1 v7) λx32=>
 br (gY p0 x32) λx34=>
 br (g6 p0 (⟨s1.1,s1.2⟩:Det) x34) λx35=>
 bif (!x35.2) then
  some (.inl (((⟨([]:List (List Int)),([]:List Pair)⟩:Det):Det),false))
 else
  some (.inr (.inr (x35.1.Next,x35.1.Pairs)))
def dS (p0:Sig) (p1:(List Clause)):Option (Det×Bool):=
 br (eF p0 p1) λx12=>
 bif (!x12) then
  some (((⟨([]:List (List Int)),([]:List Pair)⟩:Det):Det),false)
 else
  br (cq p0) λx16=>
  br (mkS 8 x16 (0:Int)) λx17=>
  br (cntM (dw p0 p1) p1.length 0 ((([x17]:List (List Int)):(List (List Int))),(([]:List Pair):(List Pair)))) λq2=>
  aft (λr=>some r) (λs3=>
   some (((⟨s3.1,s3.2⟩:Det):Det),true)) q2
def dc (p0:Sig):Option (Int):=
 br (cG p0.In) λx5=>
 some (x5:Int)
def gv (p0:Sig) (p1:Int) (p2:Int):Option (Int):=
 br (gQ p0) λx8=>
 br (bif (!x8) then
 some true
 else
 br (cG p0.In) λx14=>
 br (dT p1 0 (IntKind.i64.wrap (x14-1))) λx16=>
 some (!x16)) λp18=>
 br (bif p18 then
 some true
 else
 br (cG p0.Out) λx23=>
 br (dT p2 0 (IntKind.i64.wrap (x23-1))) λx25=>
 some (!x25)) λp27=>
 bif p27 then
  some ((-1):Int)
 else
  br (cG p0.In) λx31=>
  some ((IntKind.i64.wrap ((IntKind.i64.wrap (p2 * x31))+p1)):Int)
def de (p0:(List Int)):Option ((List Int)):=
 br (appS 8 ([]:List Int) p0) λx5=>
 some (x5:(List Int))
def eo (p0:(List Int)) (p1:Int) (s1:Int):Option ((List Int)⊕((Int)⊕(Int))):=
 br (bif decide (s1<(p0.length:Int)) then
 br (idx p0 s1) λx14=>
 some (decide (x14<p1))
 else
 some false) λp18=>
 bif p18 then
  some (.inr (.inr ((IntKind.i64.wrap (s1+1)):Int)))
 else
  some (.inr (.inl (s1:Int)))
def gU (p0:(List Int)) (p1:Int):Option ((List Int)):=
 br (bP (eo p0 p1) (2 ^ 64) (0:Int)) λq2=>
 aft (λr=>some r) (λs3=>
  br (bif decide (s3<(p0.length:Int)) then
  br (idx p0 s3) λx28=>
  some (x28==p1)
  else
  some false) λp32=>
  bif p32 then
   some (p0:(List Int))
  else
   br (subS p0 0 s3) λx36=>
   br (de x36) λx37=>
   br (appS 8 x37 ([p1]:List Int)) λx40=>
   br (subS p0 s3 (p0.length:Int)) λx44=>
   br (appS 8 x40 x44) λx45=>
   some (x45:(List Int))) q2
def eQ (p0:Sig) (p1:Det) (p2:Int) (p3:Int) (s1:(List Int)×Int):Option ((List Int)⊕(((List Int)×Int)⊕((List Int)×Int))):=
 br (cG p0.Out) λx15=>
 bif decide (s1.2<x15) then
  br (idx p1.Next p2) λx23=>
  br (gv p0 p3 s1.2) λx28=>
  br (idx x23 x28) λx29=>
  br (gU s1.1 x29) λx31=>
  some (.inr (.inr (x31,((IntKind.i64.wrap (s1.2+1)):Int))))
 else
  some (.inr (.inl (s1.1,s1.2)))
def iZ (p0:Sig) (p1:Det) (p2:Int) (p3:Int):Option ((List Int)):=
 br (bP (eQ p0 p1 p2 p3) (2 ^ 64) ((([]:List Int):(List Int)),(0:Int))) λq2=>
 aft (λr=>some r) (λs3=>
  some (s3.1:(List Int))) q2
def dK (p1:Det) (x27:Int) (v10:Int) (v12:Int) (s4:(List Int)):Option ((Arena×(List Pair)×Bool)⊕(((List Int))⊕((List Int)))):=
 br (appS 8 s4 ([(IntKind.i64.wrap ((IntKind.i64.wrap ((p1.Next.length:Int)+(IntKind.i64.wrap (v10 * x27))))+v12))]:List Int)) λx49=>
 some (.inr (.inr (x49:(List Int))))
def dD (p1:Det) (x27:Int) (v10:Int) (s1:(List Int)×(List (List Int))):Option ((Arena×(List Pair)×Bool)⊕(((List Int)×(List (List Int)))⊕((List Int)×(List (List Int))))):=
 br (rng x27) λ_=>
 br (cntM (dK p1 x27 v10) (vu (x27-0)) 0 (([]:List Int):(List Int))) λq5=>
 aft (λr=>some (.inl r)) (λs6=>
  br (appS 8 s1.1 ([1]:List Int)) λx53=>
  br (appS 24 s1.2 ([s6]:List (List Int))) λx59=>
  some (.inr (.inr (x53,x59)))) q5
def dE (p0:Sig) (p1:Det) (v13:Int) (v14:Int) (s10:(List Int)×(List (List Int))):Option ((Arena×(List Pair)×Bool)⊕(((List Int)×(List (List Int)))⊕((List Int)×(List (List Int))))):=
 br (appS 8 s10.1 ([0]:List Int)) λx74=>
 br (iZ p0 p1 v13 v14) λx82=>
 br (appS 24 s10.2 ([x82]:List (List Int))) λx84=>
 some (.inr (.inr (x74,x84)))
def dC (p0:Sig) (p1:Det) (x27:Int) (v13:Int) (s7:(List Int)×(List (List Int))):Option ((Arena×(List Pair)×Bool)⊕(((List Int)×(List (List Int)))⊕((List Int)×(List (List Int))))):=
 br (rng x27) λ_=>
 br (cntM (dE p0 p1 v13) (vu (x27-0)) 0 (s7.1,s7.2)) λq11=>
 aft (λr=>some (.inl r)) (λs12=>
  some (.inr (.inr (s12.1,s12.2)))) q11
def dG (p1:Det) (v16:Int) (s13:(List Pair)):Option ((Arena×(List Pair)×Bool)⊕(((List Pair))⊕((List Pair)))):=
 br (idx p1.Pairs v16) λx98=>
 br (idx p1.Pairs v16) λx105=>
 br (de x98.Ask) λx101=>
 br (de x105.Give) λx108=>
 br (appS 48 s13 ([(⟨x101,x108⟩:Pair)]:List Pair)) λx111=>
 some (.inr (.inr (x111:(List Pair))))
def dg (p0:Sig) (p1:Det):Option (Arena×(List Pair)×Bool):=
 br (ir p0 p1) λx19=>
 bif (!x19) then
  some (((⟨([]:List Int),([]:List (List Int))⟩:Arena):Arena),(([]:List Pair):(List Pair)),false)
 else
  br (dc p0) λx27=>
  br (cntM (dD p1 x27) p1.Next.length 0 ((([]:List Int):(List Int)),(([]:List (List Int)):(List (List Int))))) λq2=>
  aft (λr=>some r) (λs3=>
   br (cntM (dC p0 p1 x27) p1.Next.length 0 (s3.1,s3.2)) λq8=>
   aft (λr=>some r) (λs9=>
    br (cntM (dG p1) p1.Pairs.length 0 (([]:List Pair):(List Pair))) λq14=>
    aft (λr=>some r) (λs15=>
     some (((⟨s9.1,s9.2⟩:Arena):Arena),s15,true)) q14) q8) q2
def gl (p0:Arena) (v4:Int) (s1:Unit):Option (Bool⊕((Unit)⊕(Unit))):=
 br (idx p0.Owner v4) λx30=>
 br (dT x30 0 1) λx32=>
 br (bif (!x32) then
 some true
 else
 br (idx p0.Next v4) λx38=>
 some (decide ((x38.length:Int)<1))) λp42=>
 br (bif p42 then
 some true
 else
 br (idx p0.Next v4) λx47=>
 some (decide (16<(x47.length:Int)))) λp51=>
 br (bif p51 then
 some true
 else
 br (idx p0.Next v4) λx56=>
 br (jh x56 (p0.Owner.length:Int)) λx59=>
 some (!x59)) λp61=>
 bif p61 then
  some (.inl (false:Bool))
 else
  some (.inr (.inr ()))
def iz (p0:Arena):Option (Bool):=
 br (dT (p0.Owner.length:Int) 1 256) λx9=>
 br (bif (!x9) then
 some true
 else
 some ((p0.Next.length:Int) !=(p0.Owner.length:Int))) λp19=>
 bif p19 then
  some (false:Bool)
 else
  br (cntM (gl p0) p0.Owner.length 0 ()) λq2=>
  aft (λr=>some r) (λs3=>
   some (true:Bool)) q2
def gV (p0:(List Int)) (p1:Int) (v5:Int) (s1:Unit):Option (Bool⊕((Unit)⊕(Unit))):=
 br (idx p0 v5) λx14=>
 bif (x14==p1) then
  some (.inl (true:Bool))
 else
  some (.inr (.inr ()))
def iL (p0:(List Int)) (p1:Int):Option (Bool):=
 br (cntM (gV p0 p1) p0.length 0 ()) λq2=>
 aft (λr=>some r) (λs3=>
  some (false:Bool)) q2
def dW (p0:(List Pair)) (p1:(List Int)) (p2:Int) (v9:Int) (s1:(List Int)×(List Int)):Option ((List Int)⊕(((List Int)×(List Int))⊕((List Int)×(List Int)))):=
 br (idx p1 v9) λx21=>
 br (idx p0 x21) λx23=>
 br (iL x23.Give p2) λx27=>
 br (bif x27 then
  br (idx p1 v9) λx31=>
  br (appS 8 s1.1 ([x31]:List Int)) λx34=>
  some (x34,s1.2)
 else
  br (idx p1 v9) λx38=>
  br (appS 8 s1.2 ([x38]:List Int)) λx41=>
  some (s1.1,x41)) λq4=>
 some (.inr (.inr (q4.1,q4.2)))
def gr (p0:(List Pair)) (p1:(List Int)) (p2:Int):Option ((List Int)):=
 br (cntM (dW p0 p1 p2) p1.length 0 ((([]:List Int):(List Int)),(([]:List Int):(List Int)))) λq2=>
 aft (λr=>some r) (λs3=>
  br (appS 8 s3.1 s3.2) λx44=>
  some (x44:(List Int))) q2
def dv (p0:(List Int)) (p1:(List Int)) (v5:Int) (s1:Unit):Option (Bool⊕((Unit)⊕(Unit))):=
 br (idx p0 v5) λx19=>
 br (idx p1 v5) λx23=>
 bif (x19 !=x23) then
  some (.inl (false:Bool))
 else
  some (.inr (.inr ()))
def eZ (p0:(List Int)) (p1:(List Int)):Option (Bool):=
 bif ((p0.length:Int) !=(p1.length:Int)) then
  some (false:Bool)
 else
  br (cntM (dv p0 p1) p0.length 0 ()) λq2=>
  aft (λr=>some r) (λs3=>
   some (true:Bool)) q2
def fY (p0:(List Place)) (p1:Int) (p2:(List Int)) (v7:Int) (s1:Unit):Option (Int⊕((Unit)⊕(Unit))):=
 br (idx p0 v7) λx16=>
 br (bif (x16.At==p1) then
 br (idx p0 v7) λx24=>
 br (eZ x24.Record p2) λx28=>
 some x28
 else
 some false) λp29=>
 bif p29 then
  some (.inl (v7:Int))
 else
  some (.inr (.inr ()))
def jC (p0:(List Place)) (p1:Int) (p2:(List Int)):Option (Int):=
 br (cntM (fY p0 p1 p2) p0.length 0 ()) λq2=>
 aft (λr=>some r) (λs3=>
  some ((-1):Int)) q2
def ew (p0:(List Int)) (v4:Int) (s1:(List Int)) (s4:Int):Option ((List Int)⊕((Int)⊕(Int))):=
 br (bif decide (0<s4) then
 br (idx s1 (IntKind.i64.wrap (s4-1))) λx22=>
 br (idx p0 v4) λx26=>
 some (decide (x26<x22))
 else
 some false) λp29=>
 bif p29 then
  some (.inr (.inr ((IntKind.i64.wrap (s4-1)):Int)))
 else
  some (.inr (.inl (s4:Int)))
def eG (p0:(List Int)) (v4:Int) (s1:(List Int)):Option ((List Int)⊕(((List Int))⊕((List Int)))):=
 br (bP (ew p0 v4 s1) (2 ^ 64) ((s1.length:Int):Int)) λq5=>
 aft (λr=>some (.inl r)) (λs6=>
  br (subS s1 0 s6) λx35=>
  br (appS 8 ([]:List Int) x35) λx36=>
  br (idx p0 v4) λx40=>
  br (appS 8 x36 ([x40]:List Int)) λx43=>
  br (subS s1 s6 (s1.length:Int)) λx47=>
  br (appS 8 x43 x47) λx48=>
  some (.inr (.inr (x48:(List Int))))) q5
def hZ (p0:(List Int)):Option ((List Int)):=
 br (cntM (eG p0) p0.length 0 (([]:List Int):(List Int))) λq2=>
 aft (λr=>some r) (λs3=>
  some (s3:(List Int))) q2
def dU (p0:(List Pair)) (p1:(List Int)) (p2:Int) (v9:Int) (s1:Int×Int):Option (Int⊕((Int×Int)⊕(Int×Int))):=
 br (idx p1 v9) λx19=>
 br (idx p0 x19) λx21=>
 br (iL x21.Ask p2) λx25=>
 br (bif x25 then
  some (v9:Int)
 else
  some (s1.1:Int)) λq4=>
 br (idx p1 v9) λx30=>
 br (idx p0 x30) λx32=>
 br (iL x32.Give p2) λx36=>
 br (bif x36 then
  some (v9:Int)
 else
  some (s1.2:Int)) λq5=>
 some (.inr (.inr (q4,q5)))
def gM (p0:(List Pair)) (p1:(List Int)) (p2:Int):Option (Int):=
 br (cntM (dU p0 p1 p2) p1.length 0 (((-1):Int),((-1):Int))) λq2=>
 aft (λr=>some r) (λs3=>
  br (bif decide (s3.1<0) then
  some (decide (s3.2<0))
  else
  some false) λp44=>
  bif p44 then
   some (0:Int)
  else
   bif decide (s3.2<s3.1) then
    some ((IntKind.i64.wrap ((IntKind.i64.wrap (2 * s3.1))+1)):Int)
   else
    some ((IntKind.i64.wrap ((IntKind.i64.wrap (2 * s3.2))+2)):Int)) q2
def di  (v11:Int) (s1:(List Int)):Option ((Parity×(List Place)×Bool)⊕(((List Int))⊕((List Int)))):=
 br (appS 8 s1 ([v11]:List Int)) λx52=>
 some (.inr (.inr (x52:(List Int))))
def eg (p0:Arena) (x66:Place) (x73:(List Int)) (s7:(List Place)×(List Int)×Int):Option ((Parity×(List Place)×Bool)⊕(((List Place)×(List Int)×Int)⊕((List Place)×(List Int)×Int))):=
 br (idx p0.Next x66.At) λx80=>
 bif decide (s7.2.2<(x80.length:Int)) then
  br (idx p0.Next x66.At) λx90=>
  br (idx x90 s7.2.2) λx93=>
  br (jC s7.1 x93 x73) λx98=>
  br (bif decide (x98<0) then
   bif decide (256<=(s7.1.length:Int)) then
    some (.inl (((⟨(⟨([]:List Int),([]:List (List Int))⟩:Arena),([]:List Int)⟩:Parity):Parity),(([]:List Place):(List Place)),false))
   else
    br (appS 8 ([]:List Int) x73) λx111=>
    br (appS 32 s7.1 ([(⟨x93,x111⟩:Place)]:List Place)) λx114=>
    some (.inr (x114,((s7.1.length:Int):Int)))
  else
   some (.inr (s7.1,x98)):Option ((Parity×(List Place)×Bool)⊕((List Place)×Int))) λq10=>
  aft (λr=>some (.inl r)) (λz10=>
   br (appS 8 s7.2.1 ([z10.2]:List Int)) λx118=>
   some (.inr (.inr (z10.1,x118,((IntKind.i64.wrap (s7.2.2+1)):Int))))) q10
 else
  some (.inr (.inl (s7.1,s7.2.1,s7.2.2)))
def dt (p0:Arena) (p1:(List Pair)) (s4:(List Place)×Int×(List Int)×(List (List Int))×(List Int)):Option ((Parity×(List Place)×Bool)⊕(((List Place)×Int×(List Int)×(List (List Int))×(List Int))⊕((List Place)×Int×(List Int)×(List (List Int))×(List Int)))):=
 bif decide (s4.2.1<(s4.1.length:Int)) then
  br (idx s4.1 s4.2.1) λx66=>
  br (gr p1 x66.Record x66.At) λx73=>
  br (bP (eg p0 x66 x73) (2 ^ 64) (s4.1,(([]:List Int):(List Int)),(0:Int))) λq8=>
  aft (λr=>some (.inl r)) (λs9=>
   br (idx p0.Owner x66.At) λx126=>
   br (appS 8 s4.2.2.1 ([x126]:List Int)) λx129=>
   br (hZ s9.2.1) λx136=>
   br (appS 24 s4.2.2.2.1 ([x136]:List (List Int))) λx138=>
   br (gM p1 x66.Record x66.At) λx148=>
   br (appS 8 s4.2.2.2.2 ([x148]:List Int)) λx150=>
   some (.inr (.inr (s9.1,((IntKind.i64.wrap (s4.2.1+1)):Int),x129,x138,x150)))) q8
 else
  some (.inr (.inl (s4.1,s4.2.1,s4.2.2.1,s4.2.2.2.1,s4.2.2.2.2)))
def dp (p0:Arena) (p1:(List Pair)) (p2:Int):Option (Parity×(List Place)×Bool):=
 br (iz p0) λx25=>
 br (bif (!x25) then
 some true
 else
 br (iB p1 (p0.Owner.length:Int)) λx30=>
 some (!x30)) λp32=>
 br (bif p32 then
 some true
 else
 br (dT p2 0 (IntKind.i64.wrap ((p0.Owner.length:Int)-1))) λx37=>
 some (!x37)) λp39=>
 bif p39 then
  some (((⟨(⟨([]:List Int),([]:List (List Int))⟩:Arena),([]:List Int)⟩:Parity):Parity),(([]:List Place):(List Place)),false)
 else
  br (cntM di p1.length 0 (([]:List Int):(List Int))) λq2=>
  aft (λr=>some r) (λs3=>
   br (bP (dt p0 p1) (2 ^ 64) ((([(⟨p2,s3⟩:Place)]:List Place):(List Place)),(0:Int),(([]:List Int):(List Int)),(([]:List (List Int)):(List (List Int))),(([]:List Int):(List Int)))) λq5=>
   aft (λr=>some r) (λs6=>
    some (((⟨(⟨s6.2.2.1,s6.2.2.2.1⟩:Arena),s6.2.2.2.2⟩:Parity):Parity),s6.1,true)) q5) q2
def fg (p0:Parity) (v3:Int) (s1:Unit):Option (Bool⊕((Unit)⊕(Unit))):=
 br (idx p0.Prio v3) λx28=>
 br (dT x28 0 40) λx30=>
 bif (!x30) then
  some (.inl (false:Bool))
 else
  some (.inr (.inr ()))
def gz (p0:Parity):Option (Bool):=
 br (iz p0.Arena) λx6=>
 br (bif (!x6) then
 some true
 else
 some ((p0.Prio.length:Int) !=(p0.Arena.Owner.length:Int))) λp17=>
 bif p17 then
  some (false:Bool)
 else
  br (cntM (fg p0) p0.Prio.length 0 ()) λq2=>
  aft (λr=>some r) (λs3=>
   some (true:Bool)) q2
def g7  (v4:Int) (s1:(List Int)):Option ((List Int)⊕(((List Int))⊕((List Int)))):=
 br (appS 8 s1 ([(-1)]:List Int)) λx13=>
 some (.inr (.inr (x13:(List Int))))
def kC (p0:Int):Option ((List Int)):=
 br (rng p0) λ_=>
 br (cntM g7 (vu (p0-0)) 0 (([]:List Int):(List Int))) λq2=>
 aft (λr=>some r) (λs3=>
  some (s3:(List Int))) q2
def jZ (p0:(List Int)) (p1:Int) (v5:Int) (s1:Unit):Option (Bool⊕((Unit)⊕(Unit))):=
 br (idx p0 v5) λx14=>
 bif (x14==p1) then
  some (.inl (true:Bool))
 else
  some (.inr (.inr ()))
def mU (p0:(List Int)) (p1:Int):Option (Bool):=
 br (cntM (jZ p0 p1) p0.length 0 ()) λq2=>
 aft (λr=>some r) (λs3=>
  some (false:Bool)) q2
def fC (p0:Parity) (p1:(List Int)) (v5:Int) (s1:Unit):Option (Bool⊕((Unit)⊕(Unit))):=
 br (idx p1 v5) λx20=>
 br (bif (x20 !=(-1)) then
 br (idx p1 v5) λx32=>
 br (idx p0.Arena.Next v5) λx28=>
 br (mU x28 x32) λx34=>
 some (!x34)
 else
 some false) λp36=>
 bif p36 then
  some (.inl (false:Bool))
 else
  some (.inr (.inr ()))
def jQ (p0:Parity) (p1:(List Int)):Option (Bool):=
 bif ((p1.length:Int) !=(p0.Prio.length:Int)) then
  some (false:Bool)
 else
  br (cntM (fC p0 p1) p1.length 0 ()) λq2=>
  aft (λr=>some r) (λs3=>
   some (true:Bool)) q2
def hH (p0:Parity) (p1:(List Int)) (v7:Int) (s1:(List (List Int))):Option ((Parity×Bool)⊕(((List (List Int)))⊕((List (List Int))))):=
 br (idx p0.Arena.Next v7) λx38=>
 br (de x38) λx40=>
 br (idx p1 v7) λx43=>
 br (bif decide (0<=x43) then
  br (idx p1 v7) λx48=>
  some (([x48]:List Int):(List Int))
 else
  some (x40:(List Int))) λq4=>
 br (appS 24 s1 ([q4]:List (List Int))) λx56=>
 some (.inr (.inr (x56:(List (List Int)))))
def kT (p0:Parity) (p1:(List Int)):Option (Parity×Bool):=
 br (gz p0) λx10=>
 br (bif (!x10) then
 some true
 else
 br (jQ p0 p1) λx15=>
 some (!x15)) λp17=>
 bif p17 then
  some (((⟨(⟨([]:List Int),([]:List (List Int))⟩:Arena),([]:List Int)⟩:Parity):Parity),false)
 else
  br (de p0.Arena.Owner) λx22=>
  br (de p0.Prio) λx26=>
  br (cntM (hH p0 p1) p1.length 0 (((⟨(⟨x22,([]:List (List Int))⟩:Arena),x26⟩:Parity).Arena).Next:(List (List Int)))) λq2=>
  aft (λr=>some r) (λs3=>
   some (((⟨(⟨((⟨(⟨x22,([]:List (List Int))⟩:Arena),x26⟩:Parity).Arena).Owner,s3⟩:Arena),(⟨(⟨x22,([]:List (List Int))⟩:Arena),x26⟩:Parity).Prio⟩:Parity):Parity),true)) q2
def jJ (p0:Parity) (v5:Int) (s4:Int×(List (List Int))):Option (l7Game⊕((Int×(List (List Int)))⊕(Int×(List (List Int))))):=
 br (idx p0.Arena.Next v5) λx38=>
 bif decide (s4.1<(x38.length:Int)) then
  br (idx p0.Arena.Next v5) λx48=>
  br (idx x48 s4.1) λx51=>
  br (idx s4.2 x51) λx59=>
  br (appS 8 x59 ([v5]:List Int)) λx63=>
  br (idx s4.2 x51) λx64=>
  br (setI s4.2 x51 (x63:(List Int))) λy218=>
  some (.inr (.inr (((IntKind.i64.wrap (s4.1+1)):Int),y218)))
 else
  some (.inr (.inl (s4.1,s4.2)))
def jW (p0:Parity) (v5:Int) (s1:(List (List Int))×(List Int)):Option (l7Game⊕(((List (List Int))×(List Int))⊕((List (List Int))×(List Int)))):=
 br (idx s1.2 v5) λx32=>
 br (setI s1.2 v5 (-1)) λy216=>
 br (bP (jJ p0 v5) (2 ^ 64) ((0:Int),s1.1)) λq5=>
 aft (λr=>some (.inl r)) (λs6=>
  some (.inr (.inr (s6.2,y216)))) q5
def mL (p0:Parity):Option (l7Game):=
 br (mkS 24 (p0.Prio.length:Int) (([]:List Int):(List Int))) λx20=>
 br (mkS 8 (p0.Prio.length:Int) (0:Int)) λx22=>
 br (cntM (jW p0) p0.Prio.length 0 (((⟨p0.Arena.Owner,p0.Prio,p0.Arena.Next,x20,x22⟩:l7Game).prev:(List (List Int))),((⟨p0.Arena.Owner,p0.Prio,p0.Arena.Next,x20,x22⟩:l7Game).pick:(List Int)))) λq2=>
 aft (λr=>some r) (λs3=>
  some ((⟨(⟨p0.Arena.Owner,p0.Prio,p0.Arena.Next,x20,x22⟩:l7Game).owner,(⟨p0.Arena.Owner,p0.Prio,p0.Arena.Next,x20,x22⟩:l7Game).prio,(⟨p0.Arena.Owner,p0.Prio,p0.Arena.Next,x20,x22⟩:l7Game).next,s3.1,s3.2⟩:l7Game):l7Game)) q2
def iE  (v4:Int) (s1:(List Bool)):Option ((List Bool)⊕(((List Bool))⊕((List Bool)))):=
 br (idx s1 v4) λx14=>
 br (setI s1 v4 true) λy221=>
 some (.inr (.inr (y221:(List Bool))))
def mj (p0:Int):Option ((List Bool)):=
 br (mkS 1 p0 (false:Bool)) λx6=>
 br (rng p0) λ_=>
 br (cntM iE (vu (p0-0)) 0 (x6:(List Bool))) λq2=>
 aft (λr=>some r) (λs3=>
  some (s3:(List Bool))) q2
def iQ (p0:l7Game) (p1:(List Bool)) (v6:Int) (s1:Int):Option (Int⊕((Int)⊕(Int))):=
 br (idx p1 v6) λx15=>
 br (bif x15 then
  br (idx p0.prio v6) λx21=>
  br (eJ s1 x21) λx23=>
  some (x23:Int)
 else
  some (s1:Int)) λq4=>
 some (.inr (.inr (q4:Int)))
def mK (p0:l7Game) (p1:(List Bool)):Option (Int):=
 br (cntM (iQ p0 p1) p1.length 0 ((-1):Int)) λq2=>
 aft (λr=>some r) (λs3=>
  some (s3:Int)) q2
def jB (p0:l7Game) (p1:Int) (p2:Int):Option (Bool):=
 br (idx p0.pick p1) λx10=>
 br (bif decide (x10<0) then
 some true
 else
 br (idx p0.pick p1) λx17=>
 some (x17==p2)) λp21=>
 some (p21:Bool)
def fa (p0:l7Game) (p1:(List Bool)) (p2:Int) (s1:Int×Int):Option (Int⊕((Int×Int)⊕(Int×Int))):=
 br (idx p0.next p2) λx14=>
 bif decide (s1.2<(x14.length:Int)) then
  br (idx p0.next p2) λx23=>
  br (idx x23 s1.2) λx26=>
  br (idx p1 x26) λx30=>
  br (bif x30 then
  br (jB p0 p2 x26) λx36=>
  some x36
  else
  some false) λp37=>
  br (bif p37 then
   some ((IntKind.i64.wrap (s1.1+1)):Int)
  else
   some (s1.1:Int)) λq4=>
  some (.inr (.inr (q4,((IntKind.i64.wrap (s1.2+1)):Int))))
 else
  some (.inr (.inl (s1.1,s1.2)))
def iO (p0:l7Game) (p1:(List Bool)) (p2:Int):Option (Int):=
 br (bP (fa p0 p1 p2) (2 ^ 64) ((0:Int),(0:Int))) λq2=>
 aft (λr=>some r) (λs3=>
  some (s3.1:Int)) q2
def dJ (p0:l7Game) (p1:(List Bool)) (p3:(List Bool)) (v12:Int) (s1:(List Int)×(List Bool)×(List Int)):Option ((List Bool)⊕(((List Int)×(List Bool)×(List Int))⊕((List Int)×(List Bool)×(List Int)))):=
 br (idx p1 v12) λx32=>
 br (bif x32 then
  br (iO p0 p1 v12) λx39=>
  br (idx s1.2.2 v12) λx40=>
  br (setI s1.2.2 v12 x39) λy234=>
  some (y234:(List Int))
 else
  some (s1.2.2:(List Int))) λq4=>
 br (idx p1 v12) λx43=>
 br (bif x43 then
 br (idx p3 v12) λx48=>
 some x48
 else
 some false) λp50=>
 br (bif p50 then
  br (idx s1.2.1 v12) λx53=>
  br (setI s1.2.1 v12 true) λy235=>
  br (appS 8 s1.1 ([v12]:List Int)) λx57=>
  some (x57,y235)
 else
  some (s1.1,s1.2.1)) λq5=>
 some (.inr (.inr (q5.1,q5.2,q4)))
def cW (p0:l7Game) (p1:(List Bool)) (p2:Int) (x66:Int) (s9:(List Int)×Int×(List Bool)×(List Int)):Option ((List Bool)⊕(((List Int)×Int×(List Bool)×(List Int))⊕((List Int)×Int×(List Bool)×(List Int)))):=
 br (idx p0.prev x66) λx72=>
 bif decide (s9.2.1<(x72.length:Int)) then
  br (idx p0.prev x66) λx81=>
  br (idx x81 s9.2.1) λx84=>
  br (idx p1 x84) λx88=>
  br (bif (!x88) then
  some true
  else
  br (idx s9.2.2.1 x84) λx94=>
  some x94) λp96=>
  br (bif p96 then
  some true
  else
  br (jB p0 x84 x66) λx101=>
  some (!x101)) λp103=>
  bif p103 then
   some (.inr (.inr (s9.1,((IntKind.i64.wrap (s9.2.1+1)):Int),s9.2.2.1,s9.2.2.2)))
  else
   br (idx s9.2.2.2 x84) λx106=>
   br (idx s9.2.2.2 x84) λx109=>
   br (setI s9.2.2.2 x84 (IntKind.i64.wrap (x106-1))) λy238=>
   br (idx p0.owner x84) λx113=>
   br (bif (x113==p2) then
   some true
   else
   br (idx y238 x84) λx120=>
   some (x120==0)) λp123=>
   br (bif p123 then
    br (idx s9.2.2.1 x84) λx126=>
    br (setI s9.2.2.1 x84 true) λy239=>
    br (appS 8 s9.1 ([x84]:List Int)) λx130=>
    some (x130,y239)
   else
    some (s9.1,s9.2.2.1)) λq12=>
   some (.inr (.inr (q12.1,((IntKind.i64.wrap (s9.2.1+1)):Int),q12.2,y238)))
 else
  some (.inr (.inl (s9.1,s9.2.1,s9.2.2.1,s9.2.2.2)))
def eq (p0:l7Game) (p1:(List Bool)) (p2:Int) (s6:(List Int)×Int×(List Bool)×(List Int)):Option ((List Bool)⊕(((List Int)×Int×(List Bool)×(List Int))⊕((List Int)×Int×(List Bool)×(List Int)))):=
 bif decide (s6.2.1<(s6.1.length:Int)) then
  br (idx s6.1 s6.2.1) λx66=>
  br (bP (cW p0 p1 p2 x66) (2 ^ 64) (s6.1,(0:Int),s6.2.2.1,s6.2.2.2)) λq10=>
  aft (λr=>some (.inl r)) (λs11=>
   some (.inr (.inr (s11.1,((IntKind.i64.wrap (s6.2.1+1)):Int),s11.2.2.1,s11.2.2.2)))) q10
 else
  some (.inr (.inl (s6.1,s6.2.1,s6.2.2.1,s6.2.2.2)))
def ft (p0:l7Game) (p1:(List Bool)) (p2:Int) (p3:(List Bool)):Option ((List Bool)):=
 br (mkS 1 (p1.length:Int) (false:Bool)) λx19=>
 br (mkS 8 (p1.length:Int) (0:Int)) λx22=>
 br (cntM (dJ p0 p1 p3) p1.length 0 ((([]:List Int):(List Int)),x19,x22)) λq2=>
 aft (λr=>some r) (λs3=>
  br (bP (eq p0 p1 p2) (2 ^ 64) (s3.1,(0:Int),s3.2.1,s3.2.2)) λq7=>
  aft (λr=>some r) (λs8=>
   some (s8.2.2.1:(List Bool))) q7) q2
def gW (p0:(List Bool)) (p1:(List Bool)) (v6:Int) (s1:(List Bool)):Option ((List Bool)⊕(((List Bool))⊕((List Bool)))):=
 br (idx p0 v6) λx20=>
 br (bif x20 then
 br (idx p1 v6) λx25=>
 some (!x25)
 else
 some false) λp28=>
 br (idx s1 v6) λx29=>
 br (setI s1 v6 p28) λy243=>
 some (.inr (.inr (y243:(List Bool))))
def jT (p0:(List Bool)) (p1:(List Bool)):Option ((List Bool)):=
 br (mkS 1 (p0.length:Int) (false:Bool)) λx9=>
 br (cntM (gW p0 p1) p0.length 0 (x9:(List Bool))) λq2=>
 aft (λr=>some r) (λs3=>
  some (s3:(List Bool))) q2
def iM (p0:l7Game) (p1:(List Bool)) (x21:Int) (v9:Int) (s1:(List Bool)):Option ((List Bool)⊕(((List Bool))⊕((List Bool)))):=
 br (idx p1 v9) λx43=>
 br (bif x43 then
 br (idx p0.prio v9) λx49=>
 some (x49==x21)
 else
 some false) λp53=>
 br (idx s1 v9) λx54=>
 br (setI s1 v9 p53) λy227=>
 some (.inr (.inr (y227:(List Bool))))
def gt (x21:Int) (x61:(List Bool)) (x64:(List Bool)) (v14:Int) (s4:Bool×(List Bool)):Option ((List Bool)⊕((Bool×(List Bool))⊕(Bool×(List Bool)))):=
 br (idx x61 v14) λx78=>
 br (bif x78 then
 br (idx x64 v14) λx83=>
 some (x83 !=((Int.tmod x21 2)==0))
 else
 some false) λp88=>
 br (idx s4.2 v14) λx89=>
 br (setI s4.2 v14 p88) λy246=>
 br (bif s4.1 then
 some true
 else
 br (idx y246 v14) λx94=>
 some x94) λp96=>
 some (.inr (.inr (p96,y246)))
def jc (p1:(List Bool)) (x21:Int) (v15:Int) (s7:(List Bool)):Option ((List Bool)⊕(((List Bool))⊕((List Bool)))):=
 br (idx p1 v15) λx109=>
 br (bif x109 then
 some ((Int.tmod x21 2)==0)
 else
 some false) λp114=>
 br (idx s7 v15) λx115=>
 br (setI s7 v15 p114) λy247=>
 some (.inr (.inr (y247:(List Bool))))
def iV (x21:Int) (x122:(List Bool)) (x127:(List Bool)) (v18:Int) (s10:(List Bool)):Option ((List Bool)⊕(((List Bool))⊕((List Bool)))):=
 br (idx x127 v18) λx138=>
 br (bif x138 then
 some true
 else
 br (idx x122 v18) λx143=>
 br (bif x143 then
 some ((Int.tmod x21 2)==1)
 else
 some false) λp148=>
 some p148) λp149=>
 br (idx s10 v18) λx150=>
 br (setI s10 v18 p149) λy251=>
 some (.inr (.inr (y251:(List Bool))))
def gF (rc:l7Game->(List Bool)->Option ((List Bool))) (p0:l7Game) (p1:(List Bool)):Option ((List Bool)):=
 br (mK p0 p1) λx21=>
 br (mkS 1 (p1.length:Int) (false:Bool)) λx24=>
 bif decide (x21<0) then
  some (x24:(List Bool))
 else
  br (mkS 1 (p1.length:Int) (false:Bool)) λx32=>
  br (cntM (iM p0 p1 x21) p1.length 0 (x32:(List Bool))) λq2=>
  aft (λr=>some r) (λs3=>
   br (ft p0 p1 (Int.tmod x21 2) s3) λx60=>
   br (jT p1 x60) λx61=>
   br (rc p0 x61) λx64=>
   br (mkS 1 (p1.length:Int) (false:Bool)) λx67=>
   br (cntM (gt x21 x61 x64) p1.length 0 (false,x67)) λq5=>
   aft (λr=>some r) (λs6=>
    bif (!s6.1) then
     br (cntM (jc p1 x21) p1.length 0 (x24:(List Bool))) λq8=>
     aft (λr=>some r) (λs9=>
      some (s9:(List Bool))) q8
    else
     br (ft p0 p1 (IntKind.i64.wrap (1-(Int.tmod x21 2))) s6.2) λx122=>
     br (jT p1 x122) λx126=>
     br (rc p0 x126) λx127=>
     br (cntM (iV x21 x122 x127) p1.length 0 (x24:(List Bool))) λq11=>
     aft (λr=>some r) (λs12=>
      some (s12:(List Bool))) q11) q5) q2
def ji:Nat->l7Game->(List Bool)->Option ((List Bool))
 | 0=>λ_ _=>none
 | n+1=>gF (ji n)
def iY (x12:(List Bool)) (v5:Int) (s1:(List Int)):Option ((List Int)⊕(((List Int))⊕((List Int)))):=
 br (idx x12 v5) λx23=>
 br (gh x23) λx25=>
 br (appS 8 s1 ([(IntKind.i64.wrap (1-x25))]:List Int)) λx28=>
 some (.inr (.inr (x28:(List Int))))
def ga (p0:Parity):Option ((List Int)):=
 br (mL p0) λx7=>
 br (mj (p0.Prio.length:Int)) λx11=>
 br (ji (2 ^ 64) x7 x11) λx12=>
 br (cntM (iY x12) x12.length 0 (([]:List Int):(List Int))) λq2=>
 aft (λr=>some r) (λs3=>
  some (s3:(List Int))) q2
def hU (p0:(List Int)) (p1:(List Int)) (v5:Int) (s1:Unit):Option (Bool⊕((Unit)⊕(Unit))):=
 br (idx p0 v5) λx19=>
 br (idx p1 v5) λx23=>
 bif (x19 !=x23) then
  some (.inl (false:Bool))
 else
  some (.inr (.inr ()))
def kY (p0:(List Int)) (p1:(List Int)):Option (Bool):=
 bif ((p0.length:Int) !=(p1.length:Int)) then
  some (false:Bool)
 else
  br (cntM (hU p0 p1) p0.length 0 ()) λq2=>
  aft (λr=>some r) (λs3=>
   some (true:Bool)) q2
def ja (p0:Parity) (p1:(List Int)):Option (Bool):=
 br (kT p0 p1) λx10=>
 br (bif x10.2 then
 br (ga x10.1) λx16=>
 br (ga p0) λx18=>
 br (kY x16 x18) λx19=>
 some x19
 else
 some false) λp20=>
 some (p20:Bool)
def eR (p0:(List Int)) (p1:Int) (v6:Int) (s1:(List Bool)):Option ((List Bool)⊕(((List Bool))⊕((List Bool)))):=
 br (idx p0 v6) λx20=>
 br (idx s1 v6) λx24=>
 br (setI s1 v6 (x20==p1)) λy262=>
 some (.inr (.inr (y262:(List Bool))))
def eu (p0:(List Int)) (p1:Int):Option ((List Bool)):=
 br (mkS 1 (p0.length:Int) (false:Bool)) λx9=>
 br (cntM (eR p0 p1) p0.length 0 (x9:(List Bool))) λq2=>
 aft (λr=>some r) (λs3=>
  some (s3:(List Bool))) q2
def gi (p1:(List Bool)) (p2:Int) (x11:(List Bool)) (v8:Int) (s1:Unit):Option (Bool⊕((Unit)⊕(Unit))):=
 br (idx p1 v8) λx20=>
 br (bif x20 then
 br (idx x11 v8) λx25=>
 some (x25 !=(p2==0))
 else
 some false) λp30=>
 bif p30 then
  some (.inl (false:Bool))
 else
  some (.inr (.inr ()))
def jH (p0:l7Game) (p1:(List Bool)) (p2:Int):Option (Bool):=
 br (ji (2 ^ 64) p0 p1) λx11=>
 br (cntM (gi p1 p2 x11) p1.length 0 ()) λq2=>
 aft (λr=>some r) (λs3=>
  some (true:Bool)) q2
def gX (p0:l7Game) (p1:(List Bool)) (p2:Int) (s1:Int×(List Int)):Option ((Int×(List Int))⊕((Int×(List Int))⊕(Int×(List Int)))):=
 br (idx p0.next p2) λx13=>
 bif decide (s1.1<(x13.length:Int)) then
  br (idx p0.next p2) λx22=>
  br (idx x22 s1.1) λx25=>
  br (idx p1 x25) λx29=>
  bif (!x29) then
   some (.inr (.inr (((IntKind.i64.wrap (s1.1+1)):Int),s1.2)))
  else
   br (idx s1.2 p2) λx36=>
   br (setI s1.2 p2 x25) λy265=>
   br (idx p0.owner p2) λx42=>
   br (jH (⟨p0.owner,p0.prio,p0.next,p0.prev,y265⟩:l7Game) p1 x42) λx44=>
   bif x44 then
    some (.inl (x25,y265))
   else
    some (.inr (.inr (((IntKind.i64.wrap (s1.1+1)):Int),y265)))
 else
  some (.inr (.inl (s1.1,s1.2)))
def kF (p0:l7Game) (p1:(List Bool)) (p2:Int):Option (Int×(List Int)):=
 br (bP (gX p0 p1 p2) (2 ^ 64) ((0:Int),p0.pick)) λq2=>
 aft (λr=>some r) (λs3=>
  some (((-1):Int),s3.2)) q2
def fb (p0:Parity) (p1:(List Int)) (x19:(List Int)) (v8:Int) (s1:(List Int)):Option ((Answer×Bool)⊕(((List Int))⊕((List Int)))):=
 br (idx p1 v8) λx30=>
 br (bif (x30 !=(-1)) then
 br (idx x19 v8) λx36=>
 br (idx p0.Arena.Owner v8) λx42=>
 some (x36 !=x42)
 else
 some false) λp45=>
 bif p45 then
  some (.inl (((⟨([]:List Int),([]:List Int)⟩:Answer):Answer),false))
 else
  br (idx p1 v8) λx52=>
  br (idx s1 v8) λx54=>
  br (setI s1 v8 x52) λy259=>
  some (.inr (.inr (y259:(List Int))))
def fc (p0:Parity) (x19:(List Int)) (x21:l7Game) (x56:(List Bool)) (x58:(List Bool)) (v11:Int) (s4:(List Int)):Option ((Answer×Bool)⊕(((List Int))⊕((List Int)))):=
 br (idx s4 v11) λx68=>
 br (bif decide (0<=x68) then
 some true
 else
 br (idx x19 v11) λx74=>
 br (idx p0.Arena.Owner v11) λx80=>
 some (x74 !=x80)) λp83=>
 bif p83 then
  some (.inr (.inr (s4:(List Int))))
 else
  br (idx x19 v11) λx87=>
  br (bif (x87==1) then
   some (x58:(List Bool))
  else
   some (x56:(List Bool))) λq7=>
  br (kF (⟨x21.owner,x21.prio,x21.next,x21.prev,s4⟩:l7Game) q7 v11) λx97=>
  br (idx x97.2 v11) λx98=>
  br (setI x97.2 v11 x97.1) λy268=>
  some (.inr (.inr (y268:(List Int))))
def iJ (p0:Parity) (p1:(List Int)):Option (Answer×Bool):=
 br (ja p0 p1) λx15=>
 bif (!x15) then
  some (((⟨([]:List Int),([]:List Int)⟩:Answer):Answer),false)
 else
  br (ga p0) λx19=>
  br (mL p0) λx21=>
  br (cntM (fb p0 p1 x19) p1.length 0 (x21.pick:(List Int))) λq2=>
  aft (λr=>some r) (λs3=>
   br (eu x19 0) λx56=>
   br (eu x19 1) λx58=>
   br (cntM (fc p0 x19 x21 x56 x58) x19.length 0 (s3:(List Int))) λq5=>
   aft (λr=>some r) (λs6=>
    some (((⟨x19,s6⟩:Answer):Answer),true)) q5) q2
def jU (p0:Parity):Option (Answer):=
 br (gz p0) λx6=>
 bif (!x6) then
  some ((⟨([]:List Int),([]:List Int)⟩:Answer):Answer)
 else
  br (kC (p0.Prio.length:Int)) λx14=>
  br (iJ p0 x14) λx15=>
  some (x15.1:Answer)
def cP (p0:Sig):Option (Int):=
 br (cG p0.Out) λx5=>
 some (x5:Int)
def iF (p0:(List Int)) (p1:(List Place)) (p2:Int) (v7:Int) (s1:Unit):Option (Int⊕((Unit)⊕(Unit))):=
 br (idx p0 v7) λx17=>
 br (idx p1 x17) λx19=>
 bif (x19.At==p2) then
  br (idx p0 v7) λx26=>
  some (.inl (x26:Int))
 else
  some (.inr (.inr ()))
def mE (p0:(List Int)) (p1:(List Place)) (p2:Int):Option (Int):=
 br (cntM (iF p0 p1 p2) p0.length 0 ()) λq2=>
 aft (λr=>some r) (λs3=>
  some ((-1):Int)) q2
def fK (p0:(List Int)) (p1:Int) (v5:Int) (s1:Unit):Option (Int⊕((Unit)⊕(Unit))):=
 br (idx p0 v5) λx14=>
 bif (x14==p1) then
  some (.inl (v5:Int))
 else
  some (.inr (.inr ()))
def jF (p0:(List Int)) (p1:Int):Option (Int):=
 br (cntM (fK p0 p1) p0.length 0 ()) λq2=>
 aft (λr=>some r) (λs3=>
  some ((-1):Int)) q2
def dM (p0:Sig) (x29:Det×Bool) (x42:Parity×(List Place)×Bool) (x81:Place) (x90:Int) (x94:Place) (x100:Int) (s4:(List Int)×(List Int)×Int):Option ((Rival×Bool)⊕(((List Int)×(List Int)×Int)⊕((List Int)×(List Int)×Int))):=
 br (cP p0) λx105=>
 bif decide (s4.2.2<x105) then
  br (idx x42.1.Arena.Next x90) λx113=>
  br (idx x29.1.Next x81.At) λx119=>
  br (gv p0 (Int.tmod (IntKind.i64.wrap (x94.At-(x29.1.Next.length:Int))) x100) s4.2.2) λx124=>
  br (idx x119 x124) λx125=>
  br (mE x113 x42.2.1 x125) λx127=>
  br (jF s4.1 x127) λx130=>
  br (bif decide (x130<0) then
   br (appS 8 s4.1 ([x127]:List Int)) λx138=>
   some (x138,((s4.1.length:Int):Int))
  else
   some (s4.1,x130)) λq7=>
  br (appS 8 s4.2.1 ([q7.2]:List Int)) λx142=>
  some (.inr (.inr (q7.1,x142,((IntKind.i64.wrap (s4.2.2+1)):Int))))
 else
  some (.inr (.inl (s4.1,s4.2.1,s4.2.2)))
def cV (p0:Sig) (x29:Det×Bool) (x42:Parity×(List Place)×Bool) (x58:Answer) (s1:(List Int)×Int×(List Int)×(List (List Int))):Option ((Rival×Bool)⊕(((List Int)×Int×(List Int)×(List (List Int)))⊕((List Int)×Int×(List Int)×(List (List Int))))):=
 bif decide (s1.2.1<(s1.1.length:Int)) then
  br (idx s1.1 s1.2.1) λx79=>
  br (idx x42.2.1 x79) λx81=>
  br (idx s1.1 s1.2.1) λx88=>
  br (idx x58.Plan x88) λx90=>
  br (idx x42.2.1 x90) λx94=>
  br (dc p0) λx100=>
  br (nz x100) λ_z101=>
  br (bP (dM p0 x29 x42 x81 x90 x94 x100) (2 ^ 64) (s1.1,(([]:List Int):(List Int)),(0:Int))) λq5=>
  aft (λr=>some (.inl r)) (λs6=>
   br (appS 8 s1.2.2.1 ([(Int.tmod (IntKind.i64.wrap (x94.At-(x29.1.Next.length:Int))) x100)]:List Int)) λx147=>
   br (appS 24 s1.2.2.2 ([s6.2.1]:List (List Int))) λx153=>
   some (.inr (.inr (s6.1,((IntKind.i64.wrap (s1.2.1+1)):Int),x147,x153)))) q5
 else
  some (.inr (.inl (s1.1,s1.2.1,s1.2.2.1,s1.2.2.2)))
def fw (p0:Sig) (p1:(List Clause)):Option (Rival×Bool):=
 br (dS p0 p1) λx29=>
 br (dg p0 x29.1) λx35=>
 br (dp x35.1 x35.2.1 0) λx42=>
 br (bif (!x29.2) then
 some true
 else
 some (!x35.2.2)) λp51=>
 br (bif p51 then
 some true
 else
 some (!x42.2.2)) λp55=>
 bif p55 then
  some (((⟨([]:List Int),([]:List (List Int))⟩:Rival):Rival),false)
 else
  br (jU x42.1) λx58=>
  br (idx x58.Won 0) λx61=>
  bif (x61==0) then
   some (((⟨([]:List Int),([]:List (List Int))⟩:Rival):Rival),false)
  else
   br (bP (cV p0 x29 x42 x58) (2 ^ 64) ((([0]:List Int):(List Int)),(0:Int),(([]:List Int):(List Int)),(([]:List (List Int)):(List (List Int))))) λq2=>
   aft (λr=>some r) (λs3=>
    some (((⟨s3.2.2.1,s3.2.2.2⟩:Rival):Rival),true)) q2
def fH (p0:l1Cur) (p1:Sig) (x26:Int×Int×Int) (s5:(List Int)×Int×Int×Int):Option ((Rival×Int×Int)⊕(((List Int)×Int×Int×Int)⊕((List Int)×Int×Int×Int))):=
 br (jf p1.Out 2) λx37=>
 br (cG x37) λx38=>
 bif decide (s5.2.1<x38) then
  br (cd (⟨p0.b,s5.2.2.1,s5.2.2.2⟩:l1Cur) (IntKind.i64.wrap (1+x26.1))) λx45=>
  br (appS 8 s5.1 ([x45.1]:List Int)) λx47=>
  some (.inr (.inr (x47,((IntKind.i64.wrap (s5.2.1+1)):Int),x45.2.1,x45.2.2)))
 else
  some (.inr (.inl (s5.1,s5.2.1,s5.2.2.1,s5.2.2.2)))
def fG (p0:l1Cur) (p1:Sig) (x26:Int×Int×Int) (v9:Int) (s2:Int×Int×(List Int)×(List (List Int))):Option ((Rival×Int×Int)⊕((Int×Int×(List Int)×(List (List Int)))⊕(Int×Int×(List Int)×(List (List Int))))):=
 br (bP (fH p0 p1 x26) (2 ^ 64) ((([]:List Int):(List Int)),(0:Int),s2.1,s2.2.1)) λq6=>
 aft (λr=>some (.inl r)) (λs7=>
  br (cd (⟨p0.b,s7.2.2.1,s7.2.2.2⟩:l1Cur) 2) λx51=>
  br (appS 8 s2.2.2.1 ([x51.1]:List Int)) λx53=>
  br (appS 24 s2.2.2.2 ([s7.1]:List (List Int))) λx59=>
  some (.inr (.inr (x51.2.1,x51.2.2,x53,x59)))) q6
def jV (p0:l1Cur) (p1:Sig):Option (Rival×Int×Int):=
 br (cY p0 2) λx13=>
 br (bif x13.1 then
  br (fM (⟨p0.b,x13.2.1,x13.2.2⟩:l1Cur) p1 2) λx18=>
  br (fw p1 x18.1) λx19=>
  bif x19.2 then
   some (.inl (x19.1,x18.2.1,x18.2.2))
  else
   some (.inr (x18.2.1,x18.2.2))
 else
  some (.inr (x13.2.1,x13.2.2)):Option ((Rival×Int×Int)⊕(Int×Int))) λq1=>
 aft (λr=>some r) (λz1=>
  br (cd (⟨p0.b,z1.1,z1.2⟩:l1Cur) 4) λx26=>
  br (rng (IntKind.i64.wrap (1+x26.1))) λ_=>
  br (cntM (fG p0 p1 x26) (vu ((IntKind.i64.wrap (1+x26.1))-0)) 0 (x26.2.1,x26.2.2,(([]:List Int):(List Int)),(([]:List (List Int)):(List (List Int))))) λq3=>
  aft (λr=>some r) (λs4=>
   br (cY (⟨p0.b,s4.1,s4.2.1⟩:l1Cur) 12) λx62=>
   br (bif x62.1 then
    br (cd (⟨p0.b,x62.2.1,x62.2.2⟩:l1Cur) 3) λx64=>
    br (bif (x64.1==0) then
     br (ia (⟨p0.b,x64.2.1,x64.2.2⟩:l1Cur) (-1) 4) λx70=>
     br (idx s4.2.2.1 0) λx71=>
     br (setI s4.2.2.1 0 x70.1) λy293=>
     some (x70.2.1,x70.2.2,y293,s4.2.2.2)
    else
     br (bif (x64.1==1) then
      br (idx s4.2.2.2 0) λx78=>
      br (appS 8 x78 ([0]:List Int)) λx81=>
      br (idx s4.2.2.2 0) λx82=>
      br (setI s4.2.2.2 0 (x81:(List Int))) λy295=>
      some (x64.2.1,x64.2.2,y295)
     else
      br (bif (x64.1==2) then
       br (idx s4.2.2.2 0) λx87=>
       br (ia (⟨p0.b,x64.2.1,x64.2.2⟩:l1Cur) (-1) 5) λx90=>
       br (idx x87 0) λx91=>
       br (setI x87 0 x90.1) λy297=>
       br (setI s4.2.2.2 0 y297) λyb297=>
       some (x90.2.1,x90.2.2,yb297)
      else
       some (x64.2.1,x64.2.2,s4.2.2.2)) λq11=>
      some (q11.1,q11.2.1,q11.2.2)) λq10=>
     some (q10.1,q10.2.1,s4.2.2.1,q10.2.2)) λq9=>
    some (q9.1,q9.2.1,q9.2.2.1,q9.2.2.2)
   else
    some (x62.2.1,x62.2.2,s4.2.2.1,s4.2.2.2)) λq8=>
   some (((⟨q8.2.2.1,q8.2.2.2⟩:Rival):Rival),q8.1,q8.2.1)) q3) q1
def dI (p0:l1Cur) (p1:Int) (s1:(List Int)×Int×Int×Int):Option (((List Int)×Int×Int)⊕(((List Int)×Int×Int×Int)⊕((List Int)×Int×Int×Int))):=
 bif decide (0<s1.2.1) then
  br (cd (⟨p0.b,s1.2.2.1,s1.2.2.2⟩:l1Cur) p1) λx21=>
  br (appS 8 s1.1 ([x21.1]:List Int)) λx23=>
  some (.inr (.inr (x23,((IntKind.i64.wrap (s1.2.1-1)):Int),x21.2.1,x21.2.2)))
 else
  some (.inr (.inl (s1.1,s1.2.1,s1.2.2.1,s1.2.2.2)))
def ef (p0:l1Cur) (p1:Int) (p2:Int):Option ((List Int)×Int×Int):=
 br (cd p0 5) λx12=>
 br (bP (dI p0 p1) (2 ^ 64) ((([]:List Int):(List Int)),((IntKind.i64.wrap (p2+x12.1)):Int),x12.2.1,x12.2.2)) λq2=>
 aft (λr=>some r) (λs3=>
  some (s3.1,s3.2.2.1,s3.2.2.2)) q2
def jO (p0:l1Cur) (p1:Int):Option (Word×Int×Int):=
 br (eJ p1 1) λx7=>
 br (ef p0 x7 0) λx10=>
 br (ef (⟨p0.b,x10.2.1,x10.2.2⟩:l1Cur) x7 1) λx13=>
 br (cY (⟨p0.b,x13.2.1,x13.2.2⟩:l1Cur) 15) λx16=>
 br (bif x16.1 then
  br (cd (⟨p0.b,x16.2.1,x16.2.2⟩:l1Cur) 4) λx18=>
  br (bif (x18.1==0) then
   some (x18.2.1,x18.2.2,x10.1,(([]:List Int):(List Int)))
  else
   br (bif (x18.1==1) then
    br (jm (⟨p0.b,x18.2.1,x18.2.2⟩:l1Cur) x7) λx29=>
    br (appS 8 x10.1 ([x29.1]:List Int)) λx31=>
    some (x29.2.1,x29.2.2,x31,x13.1)
   else
    br (bif (x18.1==2) then
     br (kv (⟨p0.b,x18.2.1,x18.2.2⟩:l1Cur)) λx38=>
     br (appS 8 x13.1 ([x38.1]:List Int)) λx40=>
     some (x38.2.1,x38.2.2,x10.1,x40)
    else
     br (bif (x18.1==3) then
      br (cd (⟨p0.b,x18.2.1,x18.2.2⟩:l1Cur) 2) λx45=>
      br (mkS 8 (IntKind.i64.wrap (600+x45.1)) (0:Int)) λx47=>
      some (x45.2.1,x45.2.2,x47)
     else
      some (x18.2.1,x18.2.2,x10.1)) λq5=>
     some (q5.1,q5.2.1,q5.2.2,x13.1)) λq4=>
    some (q4.1,q4.2.1,q4.2.2.1,q4.2.2.2)) λq3=>
   some (q3.1,q3.2.1,q3.2.2.1,q3.2.2.2)) λq2=>
  some (q2.1,q2.2.1,q2.2.2.1,q2.2.2.2)
 else
  some (x16.2.1,x16.2.2,x10.1,x13.1)) λq1=>
 some (((⟨q1.2.2.1,q1.2.2.2⟩:Word):Word),q1.1,q1.2.1)
def d9 (p0:(List Int)):Option (Sig×Rival×(List Int)):=
 br (ms p0) λx9=>
 br (fW x9) λx11=>
 br (jV (⟨x9.b,x11.2.1,x11.2.2⟩:l1Cur) x11.1) λx14=>
 br (jO (⟨x9.b,x14.2.1,x14.2.2⟩:l1Cur) 2) λx18=>
 some (x11.1,x14.1,x18.1.Stem)
def jn (p0:Sig):Option (Bool):=
 br (bif decide (1<=p0.In) then
 some (decide (p0.In<=2))
 else
 some false) λp10=>
 br (bif p10 then
 some (decide (1<=p0.Out))
 else
 some false) λp15=>
 br (bif p15 then
 some (decide (p0.Out<=2))
 else
 some false) λp20=>
 some (p20:Bool)
def dV (p0:Sig):Option (Int):=
 br (nn p0.In) λ_z5=>
 some ((IntKind.i64.wrap (1 * 2 ^ (min (vu p0.In) (IntKind.bits IntKind.i64)))):Int)
def dA (p0:Int) (c0:Int):Option (Bool):=
 br (bif decide (p0<0) then
 some true
 else
 some (decide (c0<=p0))) λp10=>
 some (p10:Bool)
def bM (p0:(List Int)) (c1_0:Int) (v8:Int) (s1:Unit):Option (Int⊕((Unit)⊕(Unit))):=
 br (idx p0 v8) λx14=>
 br (dA x14 c1_0) λx16=>
 bif x16 then
  some (.inl (v8:Int))
 else
  some (.inr (.inr ()))
def bQ (p0:(List Int)) (c1_0:Int):Option (Int):=
 br (cntM (bM p0 c1_0) p0.length 0 ()) λq2=>
 aft (λr=>some r) (λs3=>
  some ((-1):Int)) q2
def bL (p0:(List Int)) (c1_0:Int):Option (Bool):=
 br (bQ p0 c1_0) λx7=>
 some (decide (0<=x7):Bool)
def dX (p0:(List Int)) (p1:Int):Option (Bool):=
 br (bL p0 p1) λx7=>
 some ((!x7):Bool)
def fU (p0:Sig) (p1:Rival) (v37:Int) (s1:Unit):Option (Bool⊕((Unit)⊕(Unit))):=
 br (idx p1.Next v37) λx39=>
 br (nn p0.Out) λ_z45=>
 br (bif ((x39.length:Int) !=(IntKind.i64.wrap (1 * 2 ^ (min (vu p0.Out) (IntKind.bits IntKind.i64))))) then
 some true
 else
 br (dX x39 (p1.In.length:Int)) λx50=>
 some (!x50)) λp52=>
 bif p52 then
  some (.inl (false:Bool))
 else
  some (.inr (.inr ()))
def fq (p0:Sig) (p1:Rival):Option (Bool):=
 br (bif decide ((p1.In.length:Int)<1) then
 some true
 else
 some (decide (256<(p1.In.length:Int)))) λp16=>
 br (bif p16 then
 some true
 else
 some ((p1.Next.length:Int) !=(p1.In.length:Int))) λp25=>
 br (bif p25 then
 some true
 else
 br (dV p0) λx30=>
 br (dX p1.In x30) λx31=>
 some (!x31)) λp33=>
 bif p33 then
  some (false:Bool)
 else
  br (cntM (fU p0 p1) p1.Next.length 0 ()) λq2=>
  aft (λr=>some r) (λs3=>
   some (true:Bool)) q2
def fE (p1:Rival) (p2:(List Int)) (v40:Int) (s1:Int×(List Int)):Option ((List Int)⊕((Int×(List Int))⊕(Int×(List Int)))):=
 br (idx p2 v40) λx42=>
 br (idx p1.Next s1.1) λx47=>
 br (idx x47 x42) λx50=>
 br (idx p1.In x50) λx56=>
 br (appS 8 s1.2 ([x56]:List Int)) λx59=>
 some (.inr (.inr (x50,x59)))
def dP (p0:Sig) (p1:Rival) (p2:(List Int)):Option ((List Int)):=
 br (jn p0) λx12=>
 br (bif (!x12) then
 some true
 else
 br (fq p0 p1) λx17=>
 some (!x17)) λp19=>
 br (bif p19 then
 some true
 else
 some (decide (600<(p2.length:Int)))) λp24=>
 br (bif p24 then
 some true
 else
 br (nn p0.Out) λ_z29=>
 br (dX p2 (IntKind.i64.wrap (1 * 2 ^ (min (vu p0.Out) (IntKind.bits IntKind.i64))))) λx30=>
 some (!x30)) λp32=>
 bif p32 then
  some (([]:List Int):(List Int))
 else
  br (idx p1.In 0) λx35=>
  br (cntM (fE p1 p2) p2.length 0 ((0:Int),(([x35]:List Int):(List Int)))) λq2=>
  aft (λr=>some r) (λs3=>
   some (s3.2:(List Int))) q2
def fR (p0:Sig) (p1:Rival) (v6:Int) (s1:Unit):Option (Bool⊕((Unit)⊕(Unit))):=
 br (idx p1.Next v6) λx45=>
 br (cP p0) λx49=>
 br (bif ((x45.length:Int) !=x49) then
 some true
 else
 br (idx p1.Next v6) λx55=>
 br (em x55 (p1.In.length:Int)) λx58=>
 some (!x58)) λp60=>
 bif p60 then
  some (.inl (false:Bool))
 else
  some (.inr (.inr ()))
def gE (p0:Sig) (p1:Rival):Option (Bool):=
 br (gQ p0) λx11=>
 br (bif (!x11) then
 some true
 else
 br (dT (p1.In.length:Int) 1 256) λx15=>
 some (!x15)) λp17=>
 br (bif p17 then
 some true
 else
 some ((p1.Next.length:Int) !=(p1.In.length:Int))) λp26=>
 br (bif p26 then
 some true
 else
 br (dc p0) λx31=>
 br (em p1.In x31) λx32=>
 some (!x32)) λp34=>
 bif p34 then
  some (false:Bool)
 else
  br (cntM (fR p0 p1) p1.Next.length 0 ()) λq2=>
  aft (λr=>some r) (λs3=>
   some (true:Bool)) q2
def dx (p1:Rival) (p2:(List Int)) (v9:Int) (s1:Int×(List Int)):Option ((List Int)⊕((Int×(List Int))⊕(Int×(List Int)))):=
 br (idx p2 v9) λx45=>
 br (idx p1.Next s1.1) λx41=>
 br (idx x41 x45) λx47=>
 br (idx p1.In x47) λx53=>
 br (appS 8 s1.2 ([x53]:List Int)) λx56=>
 some (.inr (.inr (x47,x56)))
def ey (p0:Sig) (p1:Rival) (p2:(List Int)):Option ((List Int)):=
 br (gE p0 p1) λx12=>
 br (bif (!x12) then
 some true
 else
 some (decide (600<(p2.length:Int)))) λp18=>
 br (bif p18 then
 some true
 else
 br (cP p0) λx22=>
 br (em p2 x22) λx23=>
 some (!x23)) λp25=>
 bif p25 then
  some (([]:List Int):(List Int))
 else
  br (idx p1.In 0) λx29=>
  br (cntM (dx p1 p2) p2.length 0 ((0:Int),(([x29]:List Int):(List Int)))) λq2=>
  aft (λr=>some r) (λs3=>
   some (s3.2:(List Int))) q2
def eS (p0:(List Int)) (p1:(List Int)) (v5:Int) (s1:Unit):Option (Bool⊕((Unit)⊕(Unit))):=
 br (idx p0 v5) λx19=>
 br (idx p1 v5) λx23=>
 bif (x19 !=x23) then
  some (.inl (false:Bool))
 else
  some (.inr (.inr ()))
def gu (p0:(List Int)) (p1:(List Int)):Option (Bool):=
 bif ((p0.length:Int) !=(p1.length:Int)) then
  some (false:Bool)
 else
  br (cntM (eS p0 p1) p0.length 0 ()) λq2=>
  aft (λr=>some r) (λs3=>
   some (true:Bool)) q2
def iw (p0:Sig) (p1:Rival):Option (Bool):=
 br (jn p0) λx6=>
 br (bif x6 then
 br (fq p0 p1) λx10=>
 some x10
 else
 some false) λp11=>
 some (p11:Bool)
def jL (p0:(List Int)) (v6:Int) (s1:Int):Option (dice⊕((Int)⊕(Int))):=
 br (idx p0 v6) λx30=>
 some (.inr (.inr ((IntKind.u64.wrap ((IntKind.u64.wrap ((IntKind.u64.wrap (s1 * 1099511628211))+(IntKind.u64.wrap x30)))+3)):Int)))
def nW (p0:(List Int)) (p1:Int):Option (dice):=
 br (cntM (jL p0) p0.length 0 ((IntKind.u64.wrap ((IntKind.u64.wrap (p1 * 7919))+(IntKind.u64.wrap (p0.length:Int)))):Int)) λq2=>
 aft (λr=>some r) (λs3=>
  some ((⟨p0,0,s3⟩:dice):dice)) q2
def fP (p0:dice) (p1:Int):Option (Int×Int×Int):=
 br (bif decide (p0.i<(p0.b.length:Int)) then
  br (idx p0.b p0.i) λx41=>
  some (((IntKind.i64.wrap ((IntKind.i64.wrap (IntKind.u64.wrap (BitVec.toNat (BitVec.ofInt (IntKind.bits IntKind.u64) (Int.fdiv (IntKind.u64.wrap ((IntKind.u64.wrap (p0.h * 6364136223846793005))+1442695040888963407)) (2 ^ (min (vu 33) (IntKind.bits IntKind.u64)))) &&& BitVec.ofInt (IntKind.bits IntKind.u64) 16777215))))+(IntKind.i64.wrap x41))):Int),((IntKind.i64.wrap (p0.i+1)):Int))
 else
  some (((IntKind.i64.wrap (IntKind.u64.wrap (BitVec.toNat (BitVec.ofInt (IntKind.bits IntKind.u64) (Int.fdiv (IntKind.u64.wrap ((IntKind.u64.wrap (p0.h * 6364136223846793005))+1442695040888963407)) (2 ^ (min (vu 33) (IntKind.bits IntKind.u64)))) &&& BitVec.ofInt (IntKind.bits IntKind.u64) 16777215)))):Int),p0.i)) λq1=>
 br (nz p1) λ_z55=>
 some (((Int.tmod q1.1 p1):Int),q1.2,((IntKind.u64.wrap ((IntKind.u64.wrap (p0.h * 6364136223846793005))+1442695040888963407)):Int))
def cv (p0:(List Int)) (p1:(List Int)) (v13:Int) (s1:Unit):Option (Bool⊕((Unit)⊕(Unit))):=
 br (idx p0 v13) λx18=>
 br (idx p1 v13) λx22=>
 bif (x18 !=x22) then
  some (.inl (false:Bool))
 else
  some (.inr (.inr ()))
def cj (p0:(List Int)) (p1:(List Int)):Option (Bool):=
 bif ((p0.length:Int) !=(p1.length:Int)) then
  some (false:Bool)
 else
  br (cntM (cv p0 p1) p0.length 0 ()) λq2=>
  aft (λr=>some r) (λs3=>
   some (true:Bool)) q2
def bG (p0:(List (List Int))) (p1:(List (List Int))) (v17:Int) (s1:Unit):Option (Bool⊕((Unit)⊕(Unit))):=
 br (idx p0 v17) λx20=>
 br (idx p1 v17) λx24=>
 br (cj x20 x24) λx29=>
 bif (!x29) then
  some (.inl (false:Bool))
 else
  some (.inr (.inr ()))
def bK (p0:(List (List Int))) (p1:(List (List Int))):Option (Bool):=
 bif ((p0.length:Int) !=(p1.length:Int)) then
  some (false:Bool)
 else
  br (cntM (bG p0 p1) p0.length 0 ()) λq2=>
  aft (λr=>some r) (λs3=>
   some (true:Bool)) q2
def gR (p0:Sig) (p1:Rival) (p2:Rival):Option (Bool):=
 br (jn p0) λx8=>
 br (bif (!x8) then
 some true
 else
 br (fq p0 p1) λx13=>
 some (!x13)) λp15=>
 br (bif p15 then
 some true
 else
 br (fq p0 p2) λx19=>
 some (!x19)) λp21=>
 bif p21 then
  some (false:Bool)
 else
  br (cj p1.In p2.In) λx26=>
  br (bif x26 then
  br (bK p1.Next p2.Next) λx32=>
  some x32
  else
  some false) λp33=>
  some (p33:Bool)
def j4 (p0:(List Int)):Option (Bool):=
 br (rF p0) λx10=>
 bif x10 then
  some (true:Bool)
 else
  br (d9 p0) λx13=>
  br (dP x13.1 x13.2.1 x13.2.2) λx20=>
  br (ey x13.1 x13.2.1 x13.2.2) λx25=>
  br (gu x20 x25) λx26=>
  br (bif (!x26) then
  some true
  else
  br (iw x13.1 x13.2.1) λx31=>
  br (gE x13.1 x13.2.1) λx34=>
  some (x31 !=x34)) λp36=>
  bif p36 then
   some (false:Bool)
  else
   bif ((x20.length:Int)==0) then
    some (true:Bool)
   else
    br (nW p0 616) λx41=>
    br (fP x41 (IntKind.i64.wrap ((x13.2.2.length:Int)+1))) λx46=>
    br (subS x13.2.2 0 x46.1) λx51=>
    br (subS x20 0 (IntKind.i64.wrap (x46.1+1))) λx56=>
    br (dP x13.1 x13.2.1 x51) λx52=>
    br (gu x52 x56) λx57=>
    br (bif x57 then
    br (gR x13.1 x13.2.1 x13.2.1) λx62=>
    some x62
    else
    some false) λp63=>
    some (p63:Bool)
end Go.Proofs.Ytpcjbkgbnoocaaa
