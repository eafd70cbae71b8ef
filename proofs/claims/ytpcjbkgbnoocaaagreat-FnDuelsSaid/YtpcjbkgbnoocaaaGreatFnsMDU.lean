/- The functions on data. By program. -/
import Derived.Test.YtpcjbkgbnoocaaaGreatTypesDU
import Derived.Test.YtpcjbkgbnoocaaaGreatCompDU
set_option linter.unusedVariables false
set_option linter.unusedSimpArgs false
open Option renaming bind → bu
open Int renaming toNat → yn
namespace Go.Proofs.YtpcjbkgbnoocaaaGreat
open Go Go.Wk Go.Proofs
set_option maxRecDepth 100000
set_option maxHeartbeats 1000000
def ut (p0:(List Int)):Option (Bool):=
 some (decide (4096<(p0.length:Int)):Bool)
def jM (p0:(List Int)) (v4:Int) (s1:Int):Option (l1Cur⊕((Int)⊕(Int))):=
 bu (idx p0 v4) λx18=>
 some (.inr (.inr ((IntKind.i64.wrap (BitVec.toNat (BitVec.ofInt (IntKind.bits IntKind.i64) (IntKind.i64.wrap ((IntKind.i64.wrap ((IntKind.i64.wrap (s1 * 313))+(IntKind.i64.wrap x18)))+11)) &&& BitVec.ofInt (IntKind.bits IntKind.i64) 1073741823))):Int)))
def mT (p0:(List Int)):Option (l1Cur):=
 bu (cntM (jM p0) p0.length 0 ((IntKind.i64.wrap (560017+(p0.length:Int))):Int)) λq2=>
 aft (λr=>some r) (λs3=>
  some ((⟨p0,0,s3⟩:l1Cur):l1Cur)) q2
def hU (p0:l1Cur):Option (Int×Int×Int):=
 bu (bif decide (p0.i<(p0.b.length:Int)) then
  bu (idx p0.b p0.i) λx44=>
  some (((IntKind.i64.wrap (BitVec.toNat (BitVec.ofInt (IntKind.bits IntKind.i64) (IntKind.i64.wrap ((IntKind.i64.wrap (BitVec.toNat (BitVec.ofInt (IntKind.bits IntKind.i64) (IntKind.i64.wrap (BitVec.toNat (BitVec.ofInt (IntKind.bits IntKind.i64) (Int.fdiv (IntKind.i64.wrap ((IntKind.i64.wrap (p0.h * 6364136223846793005))+1442695040888963407)) (2 ^ (min (yn 33) (IntKind.bits IntKind.i64)))) ^^^ BitVec.ofInt (IntKind.bits IntKind.i64) (Int.fdiv (IntKind.i64.wrap ((IntKind.i64.wrap (p0.h * 6364136223846793005))+1442695040888963407)) (2 ^ (min (yn 45) (IntKind.bits IntKind.i64))))))) &&& BitVec.ofInt (IntKind.bits IntKind.i64) 255)))+(IntKind.i64.wrap x44))) &&& BitVec.ofInt (IntKind.bits IntKind.i64) 255))):Int),((IntKind.i64.wrap (p0.i+1)):Int))
 else
  some (((IntKind.i64.wrap (BitVec.toNat (BitVec.ofInt (IntKind.bits IntKind.i64) (IntKind.i64.wrap (BitVec.toNat (BitVec.ofInt (IntKind.bits IntKind.i64) (Int.fdiv (IntKind.i64.wrap ((IntKind.i64.wrap (p0.h * 6364136223846793005))+1442695040888963407)) (2 ^ (min (yn 33) (IntKind.bits IntKind.i64)))) ^^^ BitVec.ofInt (IntKind.bits IntKind.i64) (Int.fdiv (IntKind.i64.wrap ((IntKind.i64.wrap (p0.h * 6364136223846793005))+1442695040888963407)) (2 ^ (min (yn 45) (IntKind.bits IntKind.i64))))))) &&& BitVec.ofInt (IntKind.bits IntKind.i64) 255))):Int),p0.i)) λq1=>
 some (q1.1,q1.2,((IntKind.i64.wrap ((IntKind.i64.wrap (p0.h * 6364136223846793005))+1442695040888963407)):Int))
def cb (p0:l1Cur) (p1:Int):Option (Int×Int×Int):=
 bif decide (p1<=0) then
  some ((0:Int),p0.i,p0.h)
 else
  bif decide (p1<=256) then
   bu (hU p0) λx14=>
   bu (nz p1) λ_z16=>
   some (((Int.tmod x14.1 p1):Int),x14.2.1,x14.2.2)
  else
   bu (hU p0) λx18=>
   bu (hU (⟨p0.b,x18.2.1,x18.2.2⟩:l1Cur)) λx20=>
   bu (hU (⟨p0.b,x20.2.1,x20.2.2⟩:l1Cur)) λx22=>
   bu (hU (⟨p0.b,x22.2.1,x22.2.2⟩:l1Cur)) λx24=>
   bu (nz p1) λ_z36=>
   some (((Int.tmod (IntKind.i64.wrap ((IntKind.i64.wrap ((IntKind.i64.wrap ((IntKind.i64.wrap (x18.1 * 16777216))+(IntKind.i64.wrap (x20.1 * 65536))))+(IntKind.i64.wrap (x22.1 * 256))))+x24.1)) p1):Int),x24.2.1,x24.2.2)
def dg (p0:l1Cur) (p1:Int):Option (Bool×Int×Int):=
 bu (cb p0 p1) λx7=>
 some (((x7.1==0):Bool),x7.2.1,x7.2.2)
def fW (p0:l1Cur) (p1:Int) (p2:Int):Option (Int×Int×Int):=
 bu (cb p0 (IntKind.i64.wrap ((IntKind.i64.wrap (p2-p1))+1))) λx13=>
 some (((IntKind.i64.wrap (p1+x13.1)):Int),x13.2.1,x13.2.2)
def fC (p0:l1Cur):Option (Sig×Int×Int):=
 bu (dg p0 4) λx6=>
 bu (bif x6.1 then
  bu (cb (⟨p0.b,x6.2.1,x6.2.2⟩:l1Cur) 2) λx8=>
  bu (cb (⟨p0.b,x8.2.1,x8.2.2⟩:l1Cur) 2) λx11=>
  some (x11.2.1,x11.2.2,((IntKind.i64.wrap (1+x8.1)):Int),((IntKind.i64.wrap (1+x11.1)):Int))
 else
  some (x6.2.1,x6.2.2,(1:Int),(1:Int))) λq1=>
 bu (dg (⟨p0.b,q1.1,q1.2.1⟩:l1Cur) 20) λx15=>
 bu (bif x15.1 then
  bu (fW (⟨p0.b,x15.2.1,x15.2.2⟩:l1Cur) 0 3) λx17=>
  some (x17.2.1,x17.2.2,x17.1)
 else
  some (x15.2.1,x15.2.2,q1.2.2.2)) λq2=>
 some (((⟨q1.2.2.1,q2.2.2⟩:Sig):Sig),q2.1,q2.2.1)
def dd (p0:Int) (p1:Int) (p2:Int):Option (Bool):=
 bu (bif decide (p1<=p0) then
 some (decide (p0<=p2))
 else
 some false) λp14=>
 some (p14:Bool)
def gf (p0:Sig):Option (Bool):=
 bu (dd p0.In 1 2) λx5=>
 bu (bif x5 then
 bu (dd p0.Out 1 2) λx9=>
 some x9
 else
 some false) λp10=>
 some (p10:Bool)
def eP  (s1:Int×Int):Option (Int⊕((Int×Int)⊕(Int×Int))):=
 bif decide (0<s1.1) then
  some (.inr (.inr (((IntKind.i64.wrap (s1.1-1)):Int),((IntKind.i64.wrap (s1.2 * 2)):Int))))
 else
  some (.inr (.inl (s1.1,s1.2)))
def cw (p0:Int):Option (Int):=
 bu (bI eP (2 ^ 64) (p0,(1:Int))) λq2=>
 aft (λr=>some r) (λs3=>
  some (s3.2:Int)) q2
def gZ (p0:Sig):Option (Int):=
 bu (cw p0.In) λx5=>
 some (x5:Int)
def cA (p0:(List Int)):Option ((List Int)):=
 bu (appS 8 ([]:List Int) p0) λx5=>
 some (x5:(List Int))
def gK (p0:l1Cur) (p1:Sig) (x12:Int×Int×Int) (s4:(List Int)×(List Int)×Int×Int×Int):Option ((Machine×Int×Int)⊕(((List Int)×(List Int)×Int×Int×Int)⊕((List Int)×(List Int)×Int×Int×Int))):=
 bu (gZ p1) λx24=>
 bif decide (s4.2.2.1<x24) then
  bu (cb (⟨p0.b,s4.2.2.2.1,s4.2.2.2.2⟩:l1Cur) (IntKind.i64.wrap (1+x12.1))) λx31=>
  bu (appS 8 s4.1 ([x31.1]:List Int)) λx33=>
  bu (cw p1.Out) λx38=>
  bu (cb (⟨p0.b,x31.2.1,x31.2.2⟩:l1Cur) x38) λx39=>
  bu (appS 8 s4.2.1 ([x39.1]:List Int)) λx41=>
  some (.inr (.inr (x33,x41,((IntKind.i64.wrap (s4.2.2.1+1)):Int),x39.2.1,x39.2.2)))
 else
  some (.inr (.inl (s4.1,s4.2.1,s4.2.2.1,s4.2.2.2.1,s4.2.2.2.2)))
def gL (p0:l1Cur) (p1:Sig) (x12:Int×Int×Int) (v7:Int) (s1:Int×Int×(List (List Int))×(List (List Int))):Option ((Machine×Int×Int)⊕((Int×Int×(List (List Int))×(List (List Int)))⊕(Int×Int×(List (List Int))×(List (List Int))))):=
 bu (bI (gK p0 p1 x12) (2 ^ 64) ((([]:List Int):(List Int)),(([]:List Int):(List Int)),(0:Int),s1.1,s1.2.1)) λq5=>
 aft (λr=>some (.inl r)) (λs6=>
  bu (appS 24 s1.2.2.1 ([s6.1]:List (List Int))) λx46=>
  bu (appS 24 s1.2.2.2 ([s6.2.1]:List (List Int))) λx52=>
  some (.inr (.inr (s6.2.2.2.1,s6.2.2.2.2,x46,x52)))) q5
def jx (p0:l1Cur) (p1:Sig):Option (Machine×Int×Int):=
 bu (cb p0 5) λx12=>
 bu (rng (IntKind.i64.wrap (1+x12.1))) λ_=>
 bu (cntM (gL p0 p1 x12) (yn ((IntKind.i64.wrap (1+x12.1))-0)) 0 (x12.2.1,x12.2.2,(([]:List (List Int)):(List (List Int))),(([]:List (List Int)):(List (List Int))))) λq2=>
 aft (λr=>some r) (λs3=>
  bu (bif decide (1<(IntKind.i64.wrap (1+x12.1))) then
  bu (dg (⟨p0.b,s3.1,s3.2.1⟩:l1Cur) 2) λx58=>
  some (x58.1,x58.2.1,x58.2.2)
  else
  some (false,s3.1,s3.2.1)) λq7=>
  bu (bif q7.1 then
   bu (idx s3.2.2.1 0) λx66=>
   bu (cA x66) λx68=>
   bu (idx s3.2.2.1 (IntKind.i64.wrap ((IntKind.i64.wrap (1+x12.1))-1))) λx69=>
   bu (setI s3.2.2.1 (IntKind.i64.wrap ((IntKind.i64.wrap (1+x12.1))-1)) (x68:(List Int))) λy39=>
   bu (idx s3.2.2.2 0) λx76=>
   bu (cA x76) λx78=>
   bu (idx s3.2.2.2 (IntKind.i64.wrap ((IntKind.i64.wrap (1+x12.1))-1))) λx79=>
   bu (setI s3.2.2.2 (IntKind.i64.wrap ((IntKind.i64.wrap (1+x12.1))-1)) (x78:(List Int))) λy41=>
   some (y39,y41)
  else
   some (s3.2.2.1,s3.2.2.2)) λq8=>
  some (((⟨q8.1,q8.2⟩:Machine):Machine),q7.2.1,q7.2.2)) q2
def eI (p0:l1Cur) (s6:Int×Int×(List (List Int))×(List (List Int))):Option ((Machine×Int×Int)⊕((Int×Int×(List (List Int))×(List (List Int)))⊕(Int×Int×(List (List Int))×(List (List Int))))):=
 bu (cb (⟨p0.b,s6.1,s6.2.1⟩:l1Cur) 2) λx62=>
 bif decide ((s6.2.2.1.length:Int)<(IntKind.i64.wrap (48+x62.1))) then
  bu (idx s6.2.2.1 0) λx69=>
  bu (cA x69) λx71=>
  bu (appS 24 s6.2.2.1 ([x71]:List (List Int))) λx73=>
  bu (idx s6.2.2.2 0) λx79=>
  bu (cA x79) λx81=>
  bu (appS 24 s6.2.2.2 ([x81]:List (List Int))) λx83=>
  some (.inr (.inr (x62.2.1,x62.2.2,x73,x83)))
 else
  some (.inr (.inl (x62.2.1,x62.2.2,s6.2.2.1,s6.2.2.2)))
def ig (p0:l1Cur) (p1:Sig):Option (Machine×Int×Int):=
 bu (jx p0 p1) λx9=>
 bu (cb (⟨p0.b,x9.2.1,x9.2.2⟩:l1Cur) (x9.1.Next.length:Int)) λx14=>
 bu (cb (⟨p0.b,x14.2.1,x14.2.2⟩:l1Cur) 16) λx16=>
 bu (bif (x16.1==0) then
  bu (idx x9.1.Next x14.1) λx22=>
  bu (fW (⟨p0.b,x16.2.1,x16.2.2⟩:l1Cur) (-1) 6) λx25=>
  bu (idx x22 0) λx26=>
  bu (setI x22 0 x25.1) λy47=>
  bu (setI x9.1.Next x14.1 y47) λyb47=>
  some (x25.2.1,x25.2.2,yb47,x9.1.Out)
 else
  bu (bif (x16.1==1) then
   bu (idx x9.1.Out x14.1) λx32=>
   bu (fW (⟨p0.b,x16.2.1,x16.2.2⟩:l1Cur) (-1) 4) λx35=>
   bu (idx x32 0) λx36=>
   bu (setI x32 0 x35.1) λy49=>
   bu (setI x9.1.Out x14.1 y49) λyb49=>
   some (x35.2.1,x35.2.2,x9.1.Next,yb49)
  else
   bu (bif (x16.1==2) then
    bu (subS x9.1.Out 1 (x9.1.Out.length:Int)) λx41=>
    some (x16.2.1,x16.2.2,x9.1.Next,x41)
   else
    bu (bif (x16.1==3) then
     bu (idx x9.1.Next x14.1) λx51=>
     bu (appS 8 x51 ([0]:List Int)) λx54=>
     bu (idx x9.1.Next x14.1) λx55=>
     bu (setI x9.1.Next x14.1 (x54:(List Int))) λy51=>
     some (x16.2.1,x16.2.2,y51,x9.1.Out)
    else
     bu (bif (x16.1==4) then
      bu (bI (eI p0) (2 ^ 64) (x16.2.1,x16.2.2,x9.1.Next,x9.1.Out)) λq7=>
      aft (λr=>none) (λs8=>
       some (s8.1,s8.2.1,s8.2.2.1,s8.2.2.2)) q7
     else
      some (x16.2.1,x16.2.2,x9.1.Next,x9.1.Out)) λq5=>
     some (q5.1,q5.2.1,q5.2.2.1,q5.2.2.2)) λq4=>
    some (q4.1,q4.2.1,q4.2.2.1,q4.2.2.2)) λq3=>
   some (q3.1,q3.2.1,q3.2.2.1,q3.2.2.2)) λq2=>
  some (q2.1,q2.2.1,q2.2.2.1,q2.2.2.2)) λq1=>
 some (((⟨q1.2.2.1,q1.2.2.2⟩:Machine):Machine),q1.1,q1.2.1)
def fY (p0:l1Cur):Option (Sig×Machine×Int×Int):=
 bu (fC p0) λx6=>
 bu (gf x6.1) λx8=>
 bif (!x8) then
  bu (jx (⟨p0.b,x6.2.1,x6.2.2⟩:l1Cur) (⟨1,1⟩:Sig)) λx13=>
  some (x6.1,x13.1,x13.2.1,x13.2.2)
 else
  bu (ig (⟨p0.b,x6.2.1,x6.2.2⟩:l1Cur) x6.1) λx17=>
  some (x6.1,x17.1,x17.2.1,x17.2.2)
def eN (p0:(List Int)):Option (Sig×Machine):=
 bu (mT p0) λx6=>
 bu (fY x6) λx8=>
 some (x8.1,x8.2.1)
def cB (p0:Sig):Option (Int):=
 bu (gf p0) λx4=>
 bif (!x4) then
  some (0:Int)
 else
  bu (cw (IntKind.i64.wrap (p0.In+p0.Out))) λx11=>
  some (x11:Int)
def gb (p0:Int) (p1:Int):Option (Int):=
 bif decide (p1<p0) then
  some (p0:Int)
 else
  some (p1:Int)
def eF (p0:l1Cur) (v6:Int) (s1:(List Int)×Int×Int):Option (((List Int)×Int×Int)⊕(((List Int)×Int×Int)⊕((List Int)×Int×Int))):=
 bu (dg (⟨p0.b,s1.2.1,s1.2.2⟩:l1Cur) 2) λx14=>
 bu (bif x14.1 then
  bu (appS 8 s1.1 ([v6]:List Int)) λx18=>
  some (x18:(List Int))
 else
  some (s1.1:(List Int))) λq4=>
 some (.inr (.inr (q4,x14.2.1,x14.2.2)))
def fF (p0:l1Cur) (p1:Int):Option ((List Int)×Int×Int):=
 bu (rng p1) λ_=>
 bu (cntM (eF p0) (yn (p1-0)) 0 ((([]:List Int):(List Int)),p0.i,p0.h)) λq2=>
 aft (λr=>some r) (λs3=>
  some (s3.1,s3.2.1,s3.2.2)) q2
def iH (p0:Int):Option (Bool):=
 bu (bif (p0==2) then
 some true
 else
 some (p0==3)) λp8=>
 bu (bif p8 then
 some true
 else
 some (p0==7)) λp12=>
 some (p12:Bool)
def jA (p0:l1Cur) (p1:Sig):Option (Clause×Int×Int):=
 bu (cB p1) λx8=>
 bu (gb x8 2) λx9=>
 bu (cb p0 7) λx11=>
 bu (fF (⟨p0.b,x11.2.1,x11.2.2⟩:l1Cur) x9) λx15=>
 bu (iH (IntKind.i64.wrap (1+x11.1))) λx19=>
 bu (bif x19 then
  bu (fF (⟨p0.b,x15.2.1,x15.2.2⟩:l1Cur) x9) λx22=>
  some (x22.2.1,x22.2.2,x22.1)
 else
  some (x15.2.1,x15.2.2,(([]:List Int):(List Int)))) λq1=>
 some (((⟨(IntKind.i64.wrap (1+x11.1)),x15.1,q1.2.2⟩:Clause):Clause),q1.1,q1.2.1)
def nW (p0:l1Cur):Option (Int×Int×Int):=
 bu (cb p0 10) λx5=>
 bu (idx ([(-1),0,1,2147483648,(-2147483648),1099511627776,4611686018427387904,(-4611686018427387904),9223372036854775807,(-9223372036854775808)]:List Int) x5.1) λx6=>
 some (x6,x5.2.1,x5.2.2)
def ki (p0:Int) (p1:Int):Option (Int):=
 bif decide (p0<p1) then
  some (p0:Int)
 else
  some (p1:Int)
def lb (p0:l1Cur) (p1:Int):Option (Int×Int×Int):=
 bu (dg p0 10) λx6=>
 bif x6.1 then
  bu (nW (⟨p0.b,x6.2.1,x6.2.2⟩:l1Cur)) λx11=>
  bu (cb (⟨p0.b,x11.2.1,x11.2.2⟩:l1Cur) 4) λx14=>
  bu (idx ([(-1),p1,(IntKind.i64.wrap (p1+1)),x11.1]:List Int) x14.1) λx15=>
  some (x15,x14.2.1,x14.2.2)
 else
  bu (dg (⟨p0.b,x6.2.1,x6.2.2⟩:l1Cur) 2) λx18=>
  bif x18.1 then
   bu (ki p1 4) λx21=>
   bu (cb (⟨p0.b,x18.2.1,x18.2.2⟩:l1Cur) (IntKind.i64.wrap (x21+1))) λx23=>
   some (x23.1,x23.2.1,x23.2.2)
  else
   bu (cb (⟨p0.b,x18.2.1,x18.2.2⟩:l1Cur) (IntKind.i64.wrap (p1+1))) λx27=>
   some (x27.1,x27.2.1,x27.2.2)
def gY (p0:l1Cur) (p1:Sig):Option (Clause×Int×Int):=
 bu (jA p0 p1) λx8=>
 bu (dg (⟨p0.b,x8.2.1,x8.2.2⟩:l1Cur) 10) λx10=>
 bu (bif x10.1 then
  bu (cb (⟨p0.b,x10.2.1,x10.2.2⟩:l1Cur) 3) λx12=>
  bu (bif (x12.1==0) then
   bu (fW (⟨p0.b,x12.2.1,x12.2.2⟩:l1Cur) 0 8) λx16=>
   some (x16.2.1,x16.2.2,x16.1,x8.1.A,x8.1.B)
  else
   bu (bif (x12.1==1) then
    bu (lb (⟨p0.b,x12.2.1,x12.2.2⟩:l1Cur) 15) λx23=>
    bu (appS 8 x8.1.A ([x23.1]:List Int)) λx25=>
    some (x23.2.1,x23.2.2,x25,x8.1.B)
   else
    bu (bif (x12.1==2) then
     bu (lb (⟨p0.b,x12.2.1,x12.2.2⟩:l1Cur) 15) λx32=>
     bu (appS 8 x8.1.B ([x32.1]:List Int)) λx34=>
     some (x32.2.1,x32.2.2,x34)
    else
     some (x12.2.1,x12.2.2,x8.1.B)) λq4=>
    some (q4.1,q4.2.1,x8.1.A,q4.2.2)) λq3=>
   some (q3.1,q3.2.1,x8.1.Kind,q3.2.2.1,q3.2.2.2)) λq2=>
  some (q2.1,q2.2.1,q2.2.2.1,q2.2.2.2.1,q2.2.2.2.2)
 else
  some (x10.2.1,x10.2.2,x8.1.Kind,x8.1.A,x8.1.B)) λq1=>
 some (((⟨q1.2.2.1,q1.2.2.2.1,q1.2.2.2.2⟩:Clause):Clause),q1.1,q1.2.1)
def eJ (p0:l1Cur) (p1:Sig) (s1:(List Clause)×Int×Int×Int):Option (((List Clause)×Int×Int)⊕(((List Clause)×Int×Int×Int)⊕((List Clause)×Int×Int×Int))):=
 bif decide (0<s1.2.1) then
  bu (jA (⟨p0.b,s1.2.2.1,s1.2.2.2⟩:l1Cur) p1) λx21=>
  bu (appS 56 s1.1 ([x21.1]:List Clause)) λx23=>
  some (.inr (.inr (x23,((IntKind.i64.wrap (s1.2.1-1)):Int),x21.2.1,x21.2.2)))
 else
  some (.inr (.inl (s1.1,s1.2.1,s1.2.2.1,s1.2.2.2)))
def fw (p0:l1Cur) (p1:Sig) (p2:Int):Option ((List Clause)×Int×Int):=
 bu (cb p0 (IntKind.i64.wrap (p2+1))) λx13=>
 bu (bI (eJ p0 p1) (2 ^ 64) ((([]:List Clause):(List Clause)),x13.1,x13.2.1,x13.2.2)) λq2=>
 aft (λr=>some r) (λs3=>
  bu (dg (⟨p0.b,s3.2.2.1,s3.2.2.2⟩:l1Cur) 20) λx25=>
  bu (bif x25.1 then
   bu (gY (⟨p0.b,x25.2.1,x25.2.2⟩:l1Cur) p1) λx29=>
   bu (appS 56 s3.1 ([x29.1]:List Clause)) λx31=>
   some (x31,x29.2.1,x29.2.2)
  else
   some (s3.1,x25.2.1,x25.2.2)) λq4=>
  some (q4.1,q4.2.1,q4.2.2)) q2
def gM (p0:(List Int)) (p1:Int) (v5:Int) (s1:Unit):Option (Bool⊕((Unit)⊕(Unit))):=
 bu (idx p0 v5) λx14=>
 bu (dd x14 0 (IntKind.i64.wrap (p1-1))) λx18=>
 bu (bif (!x18) then
 some true
 else
 bu (bif decide (0<v5) then
 bu (idx p0 v5) λx26=>
 bu (idx p0 (IntKind.i64.wrap (v5-1))) λx31=>
 some (decide (x26<=x31))
 else
 some false) λp34=>
 some p34) λp35=>
 bif p35 then
  some (.inl (false:Bool))
 else
  some (.inr (.inr ()))
def kF (p0:(List Int)) (p1:Int):Option (Bool):=
 bu (cntM (gM p0 p1) p0.length 0 ()) λq2=>
 aft (λr=>some r) (λs3=>
  some (true:Bool)) q2
def kh (p0:(List Int)) (p1:Int):Option (Bool):=
 bu (bif decide ((p0.length:Int)<=p1) then
 bu (kF p0 p1) λx12=>
 some x12
 else
 some false) λp13=>
 some (p13:Bool)
def iv (p0:Sig) (p1:Clause):Option (Bool):=
 bu (gf p0) λx7=>
 bu (bif (!x7) then
 some true
 else
 bu (dd p1.Kind 1 7) λx12=>
 some (!x12)) λp14=>
 bif p14 then
  some (false:Bool)
 else
  bu (cB p0) λx16=>
  bu (kh p1.A x16) λx20=>
  bu (bif x20 then
  bu (kh p1.B x16) λx25=>
  some x25
  else
  some false) λp26=>
  bu (bif p26 then
  bu (iH p1.Kind) λx30=>
  bu (bif x30 then
  some true
  else
  some ((p1.B.length:Int)==0)) λp36=>
  some p36
  else
  some false) λp37=>
  some (p37:Bool)
def fu (p0:Sig) (p1:(List Clause)) (v5:Int) (s1:Unit):Option (Bool⊕((Unit)⊕(Unit))):=
 bu (idx p1 v5) λx23=>
 bu (iv p0 x23) λx25=>
 bif (!x25) then
  some (.inl (false:Bool))
 else
  some (.inr (.inr ()))
def eU (p0:Sig) (p1:(List Clause)):Option (Bool):=
 bu (gf p0) λx7=>
 bu (bif (!x7) then
 some true
 else
 some (decide (3<(p1.length:Int)))) λp13=>
 bif p13 then
  some (false:Bool)
 else
  bu (cntM (fu p0 p1) p1.length 0 ()) λq2=>
  aft (λr=>some r) (λs3=>
   some (true:Bool)) q2
def kC (p0:Int):Option (Pair):=
 bu (bif (p0==1) then
  some (true:Bool)
 else
  some ((p0==5):Bool)) λq1=>
 bif q1 then
  some ((⟨([1]:List Int),([]:List Int)⟩:Pair):Pair)
 else
  bif (p0==2) then
   some ((⟨([2]:List Int),([]:List Int)⟩:Pair):Pair)
  else
   bif (p0==3) then
    some ((⟨([1]:List Int),([0]:List Int)⟩:Pair):Pair)
   else
    bif (p0==4) then
     some ((⟨([0,1]:List Int),([1]:List Int)⟩:Pair):Pair)
    else
     bif (p0==6) then
      some ((⟨([0]:List Int),([]:List Int)⟩:Pair):Pair)
     else
      some ((⟨([2,3]:List Int),([1,3]:List Int)⟩:Pair):Pair)
def jn (p0:Int):Option (Int):=
 bif (p0==2) then
  some (3:Int)
 else
  bif (p0==7) then
   some (4:Int)
  else
   some (2:Int)
def jI (p0:(List Int)) (p1:Int) (v5:Int) (s1:Unit):Option (Bool⊕((Unit)⊕(Unit))):=
 bu (idx p0 v5) λx14=>
 bif (x14==p1) then
  some (.inl (true:Bool))
 else
  some (.inr (.inr ()))
def kg (p0:(List Int)) (p1:Int):Option (Bool):=
 bu (cntM (jI p0 p1) p0.length 0 ()) λq2=>
 aft (λr=>some r) (λs3=>
  some (false:Bool)) q2
def gw (p0:Bool):Option (Int):=
 bif p0 then
  some (1:Int)
 else
  some (0:Int)
def kN (p0:Clause) (p1:Int) (p2:Int):Option (Int):=
 bu (kg p0.A p2) λx12=>
 bu (gw x12) λx13=>
 bu (kg p0.B p2) λx17=>
 bu (gw x17) λx18=>
 bif (p0.Kind==1) then
  bu (gb p1 (IntKind.i64.wrap (1-x13))) λx26=>
  some (x26:Int)
 else
  bif (p0.Kind==2) then
   bu (bif (p1==2) then
   some true
   else
   bu (bif (p1==1) then
   some (x18==0)
   else
   some false) λp37=>
   some p37) λp38=>
   bif p38 then
    some (2:Int)
   else
    some (x13:Int)
  else
   bif (p0.Kind==3) then
    bif (x18==1) then
     some (0:Int)
    else
     bu (gb p1 x13) λx46=>
     some (x46:Int)
   else
    bif (p0.Kind==4) then
     some (x13:Int)
    else
     bif (p0.Kind==5) then
      some ((IntKind.i64.wrap (1-x13)):Int)
     else
      bif (p0.Kind==6) then
       bu (gb p1 x13) λx58=>
       some (x58:Int)
      else
       some ((IntKind.i64.wrap ((IntKind.i64.wrap (2 * x13))+x18)):Int)
def eV (p0:Sig) (p1:Clause) (s1:Int×(List (List Int))) (s4:(List Int)×Int):Option (Det⊕(((List Int)×Int)⊕((List Int)×Int))):=
 bu (cB p0) λx29=>
 bif decide (s4.2<x29) then
  bu (kN p1 s1.1 s4.2) λx37=>
  bu (appS 8 s4.1 ([x37]:List Int)) λx39=>
  some (.inr (.inr (x39,((IntKind.i64.wrap (s4.2+1)):Int))))
 else
  some (.inr (.inl (s4.1,s4.2)))
def fk (p0:Sig) (p1:Clause) (s1:Int×(List (List Int))):Option (Det⊕((Int×(List (List Int)))⊕(Int×(List (List Int))))):=
 bu (jn p1.Kind) λx22=>
 bif decide (s1.1<x22) then
  bu (bI (eV p0 p1 s1) (2 ^ 64) ((([]:List Int):(List Int)),(0:Int))) λq5=>
  aft (λr=>some (.inl r)) (λs6=>
   bu (appS 24 s1.2 ([s6.1]:List (List Int))) λx44=>
   some (.inr (.inr (((IntKind.i64.wrap (s1.1+1)):Int),x44)))) q5
 else
  some (.inr (.inl (s1.1,s1.2)))
def jl (p0:Sig) (p1:Clause):Option (Det):=
 bu (iv p0 p1) λx11=>
 bif (!x11) then
  some ((⟨([]:List (List Int)),([]:List Pair)⟩:Det):Det)
 else
  bu (kC p1.Kind) λx16=>
  bu (bI (fk p0 p1) (2 ^ 64) ((0:Int),(([]:List (List Int)):(List (List Int))))) λq2=>
  aft (λr=>some r) (λs3=>
   some ((⟨s3.2,([x16]:List Pair)⟩:Det):Det)) q2
def ga (p0:(List Int)) (p1:Int) (v5:Int) (s1:Unit):Option (Bool⊕((Unit)⊕(Unit))):=
 bu (idx p0 v5) λx14=>
 bu (dd x14 0 (IntKind.i64.wrap (p1-1))) λx18=>
 bif (!x18) then
  some (.inl (false:Bool))
 else
  some (.inr (.inr ()))
def eC (p0:(List Int)) (p1:Int):Option (Bool):=
 bu (cntM (ga p0 p1) p0.length 0 ()) λq2=>
 aft (λr=>some r) (λs3=>
  some (true:Bool)) q2
def mQ (p0:(List Int)) (p1:Int):Option (Bool):=
 bu (dd p1 0 256) λx6=>
 bu (bif x6 then
 bu (kh p0 p1) λx10=>
 some x10
 else
 some false) λp11=>
 some (p11:Bool)
def gB (p0:(List Pair)) (p1:Int) (v5:Int) (s1:Unit):Option (Bool⊕((Unit)⊕(Unit))):=
 bu (idx p0 v5) λx22=>
 bu (mQ x22.Ask p1) λx26=>
 bu (bif (!x26) then
 some true
 else
 bu (idx p0 v5) λx31=>
 bu (mQ x31.Give p1) λx35=>
 some (!x35)) λp37=>
 bif p37 then
  some (.inl (false:Bool))
 else
  some (.inr (.inr ()))
def jz (p0:(List Pair)) (p1:Int):Option (Bool):=
 bu (dd p1 0 256) λx7=>
 bu (bif (!x7) then
 some true
 else
 some (decide (4<(p0.length:Int)))) λp13=>
 bif p13 then
  some (false:Bool)
 else
  bu (cntM (gB p0 p1) p0.length 0 ()) λq2=>
  aft (λr=>some r) (λs3=>
   some (true:Bool)) q2
def jC (p0:Sig) (p1:Det) (v6:Int) (s1:Unit):Option (Bool⊕((Unit)⊕(Unit))):=
 bu (idx p1.Next v6) λx28=>
 bu (cB p0) λx32=>
 bu (bif ((x28.length:Int) !=x32) then
 some true
 else
 bu (idx p1.Next v6) λx38=>
 bu (eC x38 (p1.Next.length:Int)) λx41=>
 some (!x41)) λp43=>
 bif p43 then
  some (.inl (false:Bool))
 else
  some (.inr (.inr ()))
def gC (p0:Sig) (p1:Det):Option (Bool):=
 bu (gf p0) λx11=>
 bu (bif (!x11) then
 some true
 else
 bu (dd (p1.Next.length:Int) 1 48) λx15=>
 some (!x15)) λp17=>
 bif p17 then
  some (false:Bool)
 else
  bu (cntM (jC p0 p1) p1.Next.length 0 ()) λq2=>
  aft (λr=>some r) (λs3=>
   bu (jz p1.Pairs (p1.Next.length:Int)) λx47=>
   some (x47:Bool)) q2
def dS (p0:(List (List Int))) (p1:Int) (p2:Int) (v7:Int) (s1:Unit):Option (Int⊕((Unit)⊕(Unit))):=
 bu (idx p0 v7) λx16=>
 bu (idx x16 0) λx18=>
 bu (bif (x18==p1) then
 bu (idx p0 v7) λx25=>
 bu (idx x25 1) λx27=>
 some (x27==p2)
 else
 some false) λp31=>
 bif p31 then
  some (.inl (v7:Int))
 else
  some (.inr (.inr ()))
def eB (p0:(List (List Int))) (p1:Int) (p2:Int):Option (Int):=
 bu (cntM (dS p0 p1 p2) p0.length 0 ()) λq2=>
 aft (λr=>some r) (λs3=>
  some ((-1):Int)) q2
def fX (p0:(List Pair)) (p1:(List (List Int))) (p2:Int) (v8:Int) (v10:Int) (s4:(List Int)×(List Int)):Option ((List Pair)⊕(((List Int)×(List Int))⊕((List Int)×(List Int)))):=
 bu (idx p0 v8) λx27=>
 bu (idx p1 v10) λx32=>
 bu (idx x32 p2) λx35=>
 bu (kg x27.Ask x35) λx37=>
 bu (bif x37 then
  bu (appS 8 s4.1 ([v10]:List Int)) λx42=>
  some (x42:(List Int))
 else
  some (s4.1:(List Int))) λq7=>
 bu (idx p0 v8) λx46=>
 bu (idx p1 v10) λx51=>
 bu (idx x51 p2) λx54=>
 bu (kg x46.Give x54) λx56=>
 bu (bif x56 then
  bu (appS 8 s4.2 ([v10]:List Int)) λx61=>
  some (x61:(List Int))
 else
  some (s4.2:(List Int))) λq8=>
 some (.inr (.inr (q7,q8)))
def fU (p0:(List Pair)) (p1:(List (List Int))) (p2:Int) (v8:Int) (s1:(List Pair)):Option ((List Pair)⊕(((List Pair))⊕((List Pair)))):=
 bu (cntM (fX p0 p1 p2 v8) p1.length 0 ((([]:List Int):(List Int)),(([]:List Int):(List Int)))) λq5=>
 aft (λr=>some (.inl r)) (λs6=>
  bu (appS 48 s1 ([(⟨s6.1,s6.2⟩:Pair)]:List Pair)) λx66=>
  some (.inr (.inr (x66:(List Pair))))) q5
def ip (p0:(List Pair)) (p1:(List (List Int))) (p2:Int):Option ((List Pair)):=
 bu (cntM (fU p0 p1 p2) p0.length 0 (([]:List Pair):(List Pair))) λq2=>
 aft (λr=>some r) (λs3=>
  some (s3:(List Pair))) q2
def d9 (p0:Det) (p1:Det) (s1:(List (List Int))×Int×(List (List Int))) (v12:Int) (s4:(List (List Int))×(List Int)):Option ((Det×Bool)⊕(((List (List Int))×(List Int))⊕((List (List Int))×(List Int)))):=
 bu (idx s4.1 s1.2.1) λx35=>
 bu (idx x35 0) λx37=>
 bu (idx p0.Next x37) λx39=>
 bu (idx x39 v12) λx42=>
 bu (idx s4.1 s1.2.1) λx48=>
 bu (idx x48 1) λx50=>
 bu (idx p1.Next x50) λx52=>
 bu (idx x52 v12) λx55=>
 bu (eB s4.1 x42 x55) λx60=>
 bu (bif decide (x60<0) then
  bu (appS 24 s4.1 ([([x42,x55]:List Int)]:List (List Int))) λx70=>
  some (x70,((s4.1.length:Int):Int))
 else
  some (s4.1,x60)) λq7=>
 bu (appS 8 s4.2 ([q7.2]:List Int)) λx74=>
 some (.inr (.inr (q7.1,x74)))
def eS (p0:Det) (p1:Det) (p2:Int) (s1:(List (List Int))×Int×(List (List Int))):Option ((Det×Bool)⊕(((List (List Int))×Int×(List (List Int)))⊕((List (List Int))×Int×(List (List Int))))):=
 bif decide (s1.2.1<(s1.1.length:Int)) then
  bu (rng p2) λ_=>
  bu (cntM (d9 p0 p1 s1) (yn (p2-0)) 0 (s1.1,(([]:List Int):(List Int)))) λq5=>
  aft (λr=>some (.inl r)) (λs6=>
   bif decide (48<(s6.1.length:Int)) then
    some (.inl (((⟨([]:List (List Int)),([]:List Pair)⟩:Det):Det),false))
   else
    bu (appS 24 s1.2.2 ([s6.2]:List (List Int))) λx83=>
    some (.inr (.inr (s6.1,((IntKind.i64.wrap (s1.2.1+1)):Int),x83)))) q5
 else
  some (.inr (.inl (s1.1,s1.2.1,s1.2.2)))
def eq (p0:Det) (p1:Det) (p2:Int):Option (Det×Bool):=
 bu (bI (eS p0 p1 p2) (2 ^ 64) ((([([0,0]:List Int)]:List (List Int)):(List (List Int))),(0:Int),(([]:List (List Int)):(List (List Int))))) λq2=>
 aft (λr=>some r) (λs3=>
  bu (ip p0.Pairs s3.1 0) λx88=>
  bu (ip p1.Pairs s3.1 1) λx92=>
  bu (appS 48 x88 x92) λx93=>
  some (((⟨s3.2.2,x93⟩:Det):Det),true)) q2
def jb (p0:Sig) (p1:Det) (p2:Det):Option (Det×Bool):=
 bu (gC p0 p1) λx10=>
 bu (bif (!x10) then
 some true
 else
 bu (gC p0 p2) λx15=>
 some (!x15)) λp17=>
 bu (bif p17 then
 some true
 else
 some (decide (4<(IntKind.i64.wrap ((p1.Pairs.length:Int)+(p2.Pairs.length:Int)))))) λp27=>
 bif p27 then
  some (((⟨([]:List (List Int)),([]:List Pair)⟩:Det):Det),false)
 else
  bu (cB p0) λx32=>
  bu (eq p1 p2 x32) λx33=>
  some (x33.1,x33.2)
def dY (p0:Sig) (p1:(List Clause)) (v7:Int) (s1:(List (List Int))×(List Pair)):Option ((Det×Bool)⊕(((List (List Int))×(List Pair))⊕((List (List Int))×(List Pair)))):=
 bu (idx p1 v7) λx32=>
 bu (jl p0 x32) λx34=>
 bu (jb p0 (⟨s1.1,s1.2⟩:Det) x34) λx35=>
 bif (!x35.2) then
  some (.inl (((⟨([]:List (List Int)),([]:List Pair)⟩:Det):Det),false))
 else
  some (.inr (.inr (x35.1.Next,x35.1.Pairs)))
def dF (p0:Sig) (p1:(List Clause)):Option (Det×Bool):=
 bu (eU p0 p1) λx12=>
 bif (!x12) then
  some (((⟨([]:List (List Int)),([]:List Pair)⟩:Det):Det),false)
 else
  bu (cB p0) λx16=>
  bu (mkS 8 x16 (0:Int)) λx17=>
  bu (cntM (dY p0 p1) p1.length 0 ((([x17]:List (List Int)):(List (List Int))),(([]:List Pair):(List Pair)))) λq2=>
  aft (λr=>some r) (λs3=>
   some (((⟨s3.1,s3.2⟩:Det):Det),true)) q2
def cH (p0:Sig):Option (Int):=
 bu (cw p0.In) λx5=>
 some (x5:Int)
def dQ (p0:Sig) (p1:Int) (p2:Int):Option (Int):=
 bu (gf p0) λx8=>
 bu (bif (!x8) then
 some true
 else
 bu (cw p0.In) λx14=>
 bu (dd p1 0 (IntKind.i64.wrap (x14-1))) λx16=>
 some (!x16)) λp18=>
 bu (bif p18 then
 some true
 else
 bu (cw p0.Out) λx23=>
 bu (dd p2 0 (IntKind.i64.wrap (x23-1))) λx25=>
 some (!x25)) λp27=>
 bif p27 then
  some ((-1):Int)
 else
  bu (cw p0.In) λx31=>
  some ((IntKind.i64.wrap ((IntKind.i64.wrap (p2 * x31))+p1)):Int)
def eY (p0:(List Int)) (p1:Int) (s1:Int):Option ((List Int)⊕((Int)⊕(Int))):=
 bu (bif decide (s1<(p0.length:Int)) then
 bu (idx p0 s1) λx14=>
 some (decide (x14<p1))
 else
 some false) λp18=>
 bif p18 then
  some (.inr (.inr ((IntKind.i64.wrap (s1+1)):Int)))
 else
  some (.inr (.inl (s1:Int)))
def iT (p0:(List Int)) (p1:Int):Option ((List Int)):=
 bu (bI (eY p0 p1) (2 ^ 64) (0:Int)) λq2=>
 aft (λr=>some r) (λs3=>
  bu (bif decide (s3<(p0.length:Int)) then
  bu (idx p0 s3) λx28=>
  some (x28==p1)
  else
  some false) λp32=>
  bif p32 then
   some (p0:(List Int))
  else
   bu (subS p0 0 s3) λx36=>
   bu (cA x36) λx37=>
   bu (appS 8 x37 ([p1]:List Int)) λx40=>
   bu (subS p0 s3 (p0.length:Int)) λx44=>
   bu (appS 8 x40 x44) λx45=>
   some (x45:(List Int))) q2
def fI (p0:Sig) (p1:Det) (p2:Int) (p3:Int) (s1:(List Int)×Int):Option ((List Int)⊕(((List Int)×Int)⊕((List Int)×Int))):=
 bu (cw p0.Out) λx15=>
 bif decide (s1.2<x15) then
  bu (idx p1.Next p2) λx23=>
  bu (dQ p0 p3 s1.2) λx28=>
  bu (idx x23 x28) λx29=>
  bu (iT s1.1 x29) λx31=>
  some (.inr (.inr (x31,((IntKind.i64.wrap (s1.2+1)):Int))))
 else
  some (.inr (.inl (s1.1,s1.2)))
def jB (p0:Sig) (p1:Det) (p2:Int) (p3:Int):Option ((List Int)):=
 bu (bI (fI p0 p1 p2 p3) (2 ^ 64) ((([]:List Int):(List Int)),(0:Int))) λq2=>
 aft (λr=>some r) (λs3=>
  some (s3.1:(List Int))) q2
def ek (p1:Det) (x27:Int) (v10:Int) (v12:Int) (s4:(List Int)):Option ((Arena×(List Pair)×Bool)⊕(((List Int))⊕((List Int)))):=
 bu (appS 8 s4 ([(IntKind.i64.wrap ((IntKind.i64.wrap ((p1.Next.length:Int)+(IntKind.i64.wrap (v10 * x27))))+v12))]:List Int)) λx49=>
 some (.inr (.inr (x49:(List Int))))
def dX (p1:Det) (x27:Int) (v10:Int) (s1:(List Int)×(List (List Int))):Option ((Arena×(List Pair)×Bool)⊕(((List Int)×(List (List Int)))⊕((List Int)×(List (List Int))))):=
 bu (rng x27) λ_=>
 bu (cntM (ek p1 x27 v10) (yn (x27-0)) 0 (([]:List Int):(List Int))) λq5=>
 aft (λr=>some (.inl r)) (λs6=>
  bu (appS 8 s1.1 ([1]:List Int)) λx53=>
  bu (appS 24 s1.2 ([s6]:List (List Int))) λx59=>
  some (.inr (.inr (x53,x59)))) q5
def ed (p0:Sig) (p1:Det) (v13:Int) (v14:Int) (s10:(List Int)×(List (List Int))):Option ((Arena×(List Pair)×Bool)⊕(((List Int)×(List (List Int)))⊕((List Int)×(List (List Int))))):=
 bu (appS 8 s10.1 ([0]:List Int)) λx74=>
 bu (jB p0 p1 v13 v14) λx82=>
 bu (appS 24 s10.2 ([x82]:List (List Int))) λx84=>
 some (.inr (.inr (x74,x84)))
def em (p0:Sig) (p1:Det) (x27:Int) (v13:Int) (s7:(List Int)×(List (List Int))):Option ((Arena×(List Pair)×Bool)⊕(((List Int)×(List (List Int)))⊕((List Int)×(List (List Int))))):=
 bu (rng x27) λ_=>
 bu (cntM (ed p0 p1 v13) (yn (x27-0)) 0 (s7.1,s7.2)) λq11=>
 aft (λr=>some (.inl r)) (λs12=>
  some (.inr (.inr (s12.1,s12.2)))) q11
def ea (p1:Det) (v16:Int) (s13:(List Pair)):Option ((Arena×(List Pair)×Bool)⊕(((List Pair))⊕((List Pair)))):=
 bu (idx p1.Pairs v16) λx98=>
 bu (idx p1.Pairs v16) λx105=>
 bu (cA x98.Ask) λx101=>
 bu (cA x105.Give) λx108=>
 bu (appS 48 s13 ([(⟨x101,x108⟩:Pair)]:List Pair)) λx111=>
 some (.inr (.inr (x111:(List Pair))))
def dh (p0:Sig) (p1:Det):Option (Arena×(List Pair)×Bool):=
 bu (gC p0 p1) λx19=>
 bif (!x19) then
  some (((⟨([]:List Int),([]:List (List Int))⟩:Arena):Arena),(([]:List Pair):(List Pair)),false)
 else
  bu (cH p0) λx27=>
  bu (cntM (dX p1 x27) p1.Next.length 0 ((([]:List Int):(List Int)),(([]:List (List Int)):(List (List Int))))) λq2=>
  aft (λr=>some r) (λs3=>
   bu (cntM (em p0 p1 x27) p1.Next.length 0 (s3.1,s3.2)) λq8=>
   aft (λr=>some r) (λs9=>
    bu (cntM (ea p1) p1.Pairs.length 0 (([]:List Pair):(List Pair))) λq14=>
    aft (λr=>some r) (λs15=>
     some (((⟨s9.1,s9.2⟩:Arena):Arena),s15,true)) q14) q8) q2
def hH (p0:Arena) (v4:Int) (s1:Unit):Option (Bool⊕((Unit)⊕(Unit))):=
 bu (idx p0.Owner v4) λx30=>
 bu (dd x30 0 1) λx32=>
 bu (bif (!x32) then
 some true
 else
 bu (idx p0.Next v4) λx38=>
 some (decide ((x38.length:Int)<1))) λp42=>
 bu (bif p42 then
 some true
 else
 bu (idx p0.Next v4) λx47=>
 some (decide (16<(x47.length:Int)))) λp51=>
 bu (bif p51 then
 some true
 else
 bu (idx p0.Next v4) λx56=>
 bu (kh x56 (p0.Owner.length:Int)) λx59=>
 some (!x59)) λp61=>
 bif p61 then
  some (.inl (false:Bool))
 else
  some (.inr (.inr ()))
def jw (p0:Arena):Option (Bool):=
 bu (dd (p0.Owner.length:Int) 1 256) λx9=>
 bu (bif (!x9) then
 some true
 else
 some ((p0.Next.length:Int) !=(p0.Owner.length:Int))) λp19=>
 bif p19 then
  some (false:Bool)
 else
  bu (cntM (hH p0) p0.Owner.length 0 ()) λq2=>
  aft (λr=>some r) (λs3=>
   some (true:Bool)) q2
def jc (p0:(List Int)) (p1:Int) (v5:Int) (s1:Unit):Option (Bool⊕((Unit)⊕(Unit))):=
 bu (idx p0 v5) λx14=>
 bif (x14==p1) then
  some (.inl (true:Bool))
 else
  some (.inr (.inr ()))
def jJ (p0:(List Int)) (p1:Int):Option (Bool):=
 bu (cntM (jc p0 p1) p0.length 0 ()) λq2=>
 aft (λr=>some r) (λs3=>
  some (false:Bool)) q2
def eE (p0:(List Pair)) (p1:(List Int)) (p2:Int) (v9:Int) (s1:(List Int)×(List Int)):Option ((List Int)⊕(((List Int)×(List Int))⊕((List Int)×(List Int)))):=
 bu (idx p1 v9) λx21=>
 bu (idx p0 x21) λx23=>
 bu (jJ x23.Give p2) λx27=>
 bu (bif x27 then
  bu (idx p1 v9) λx31=>
  bu (appS 8 s1.1 ([x31]:List Int)) λx34=>
  some (x34,s1.2)
 else
  bu (idx p1 v9) λx38=>
  bu (appS 8 s1.2 ([x38]:List Int)) λx41=>
  some (s1.1,x41)) λq4=>
 some (.inr (.inr (q4.1,q4.2)))
def iE (p0:(List Pair)) (p1:(List Int)) (p2:Int):Option ((List Int)):=
 bu (cntM (eE p0 p1 p2) p1.length 0 ((([]:List Int):(List Int)),(([]:List Int):(List Int)))) λq2=>
 aft (λr=>some r) (λs3=>
  bu (appS 8 s3.1 s3.2) λx44=>
  some (x44:(List Int))) q2
def ef (p0:(List Int)) (p1:(List Int)) (v5:Int) (s1:Unit):Option (Bool⊕((Unit)⊕(Unit))):=
 bu (idx p0 v5) λx19=>
 bu (idx p1 v5) λx23=>
 bif (x19 !=x23) then
  some (.inl (false:Bool))
 else
  some (.inr (.inr ()))
def fV (p0:(List Int)) (p1:(List Int)):Option (Bool):=
 bif ((p0.length:Int) !=(p1.length:Int)) then
  some (false:Bool)
 else
  bu (cntM (ef p0 p1) p0.length 0 ()) λq2=>
  aft (λr=>some r) (λs3=>
   some (true:Bool)) q2
def ia (p0:(List Place)) (p1:Int) (p2:(List Int)) (v7:Int) (s1:Unit):Option (Int⊕((Unit)⊕(Unit))):=
 bu (idx p0 v7) λx16=>
 bu (bif (x16.At==p1) then
 bu (idx p0 v7) λx24=>
 bu (fV x24.Record p2) λx28=>
 some x28
 else
 some false) λp29=>
 bif p29 then
  some (.inl (v7:Int))
 else
  some (.inr (.inr ()))
def kD (p0:(List Place)) (p1:Int) (p2:(List Int)):Option (Int):=
 bu (cntM (ia p0 p1 p2) p0.length 0 ()) λq2=>
 aft (λr=>some r) (λs3=>
  some ((-1):Int)) q2
def fc (p0:(List Int)) (v4:Int) (s1:(List Int)) (s4:Int):Option ((List Int)⊕((Int)⊕(Int))):=
 bu (bif decide (0<s4) then
 bu (idx s1 (IntKind.i64.wrap (s4-1))) λx22=>
 bu (idx p0 v4) λx26=>
 some (decide (x26<x22))
 else
 some false) λp29=>
 bif p29 then
  some (.inr (.inr ((IntKind.i64.wrap (s4-1)):Int)))
 else
  some (.inr (.inl (s4:Int)))
def eT (p0:(List Int)) (v4:Int) (s1:(List Int)):Option ((List Int)⊕(((List Int))⊕((List Int)))):=
 bu (bI (fc p0 v4 s1) (2 ^ 64) ((s1.length:Int):Int)) λq5=>
 aft (λr=>some (.inl r)) (λs6=>
  bu (subS s1 0 s6) λx35=>
  bu (appS 8 ([]:List Int) x35) λx36=>
  bu (idx p0 v4) λx40=>
  bu (appS 8 x36 ([x40]:List Int)) λx43=>
  bu (subS s1 s6 (s1.length:Int)) λx47=>
  bu (appS 8 x43 x47) λx48=>
  some (.inr (.inr (x48:(List Int))))) q5
def i8 (p0:(List Int)):Option ((List Int)):=
 bu (cntM (eT p0) p0.length 0 (([]:List Int):(List Int))) λq2=>
 aft (λr=>some r) (λs3=>
  some (s3:(List Int))) q2
def eu (p0:(List Pair)) (p1:(List Int)) (p2:Int) (v9:Int) (s1:Int×Int):Option (Int⊕((Int×Int)⊕(Int×Int))):=
 bu (idx p1 v9) λx19=>
 bu (idx p0 x19) λx21=>
 bu (jJ x21.Ask p2) λx25=>
 bu (bif x25 then
  some (v9:Int)
 else
  some (s1.1:Int)) λq4=>
 bu (idx p1 v9) λx30=>
 bu (idx p0 x30) λx32=>
 bu (jJ x32.Give p2) λx36=>
 bu (bif x36 then
  some (v9:Int)
 else
  some (s1.2:Int)) λq5=>
 some (.inr (.inr (q4,q5)))
def iA (p0:(List Pair)) (p1:(List Int)) (p2:Int):Option (Int):=
 bu (cntM (eu p0 p1 p2) p1.length 0 (((-1):Int),((-1):Int))) λq2=>
 aft (λr=>some r) (λs3=>
  bu (bif decide (s3.1<0) then
  some (decide (s3.2<0))
  else
  some false) λp44=>
  bif p44 then
   some (0:Int)
  else
   bif decide (s3.2<s3.1) then
    some ((IntKind.i64.wrap ((IntKind.i64.wrap (2 * s3.1))+1)):Int)
   else
    some ((IntKind.i64.wrap ((IntKind.i64.wrap (2 * s3.2))+2)):Int)) q2
def dM  (v11:Int) (s1:(List Int)):Option ((Parity×(List Place)×Bool)⊕(((List Int))⊕((List Int)))):=
 bu (appS 8 s1 ([v11]:List Int)) λx52=>
 some (.inr (.inr (x52:(List Int))))
def eO (p0:Arena) (x66:Place) (x73:(List Int)) (s7:(List Place)×(List Int)×Int):Option ((Parity×(List Place)×Bool)⊕(((List Place)×(List Int)×Int)⊕((List Place)×(List Int)×Int))):=
 bu (idx p0.Next x66.At) λx80=>
 bif decide (s7.2.2<(x80.length:Int)) then
  bu (idx p0.Next x66.At) λx90=>
  bu (idx x90 s7.2.2) λx93=>
  bu (kD s7.1 x93 x73) λx98=>
  bu (bif decide (x98<0) then
   bif decide (256<=(s7.1.length:Int)) then
    some (.inl (((⟨(⟨([]:List Int),([]:List (List Int))⟩:Arena),([]:List Int)⟩:Parity):Parity),(([]:List Place):(List Place)),false))
   else
    bu (appS 8 ([]:List Int) x73) λx111=>
    bu (appS 32 s7.1 ([(⟨x93,x111⟩:Place)]:List Place)) λx114=>
    some (.inr (x114,((s7.1.length:Int):Int)))
  else
   some (.inr (s7.1,x98)):Option ((Parity×(List Place)×Bool)⊕((List Place)×Int))) λq10=>
  aft (λr=>some (.inl r)) (λz10=>
   bu (appS 8 s7.2.1 ([z10.2]:List Int)) λx118=>
   some (.inr (.inr (z10.1,x118,((IntKind.i64.wrap (s7.2.2+1)):Int))))) q10
 else
  some (.inr (.inl (s7.1,s7.2.1,s7.2.2)))
def dO (p0:Arena) (p1:(List Pair)) (s4:(List Place)×Int×(List Int)×(List (List Int))×(List Int)):Option ((Parity×(List Place)×Bool)⊕(((List Place)×Int×(List Int)×(List (List Int))×(List Int))⊕((List Place)×Int×(List Int)×(List (List Int))×(List Int)))):=
 bif decide (s4.2.1<(s4.1.length:Int)) then
  bu (idx s4.1 s4.2.1) λx66=>
  bu (iE p1 x66.Record x66.At) λx73=>
  bu (bI (eO p0 x66 x73) (2 ^ 64) (s4.1,(([]:List Int):(List Int)),(0:Int))) λq8=>
  aft (λr=>some (.inl r)) (λs9=>
   bu (idx p0.Owner x66.At) λx126=>
   bu (appS 8 s4.2.2.1 ([x126]:List Int)) λx129=>
   bu (i8 s9.2.1) λx136=>
   bu (appS 24 s4.2.2.2.1 ([x136]:List (List Int))) λx138=>
   bu (iA p1 x66.Record x66.At) λx148=>
   bu (appS 8 s4.2.2.2.2 ([x148]:List Int)) λx150=>
   some (.inr (.inr (s9.1,((IntKind.i64.wrap (s4.2.1+1)):Int),x129,x138,x150)))) q8
 else
  some (.inr (.inl (s4.1,s4.2.1,s4.2.2.1,s4.2.2.2.1,s4.2.2.2.2)))
def dp (p0:Arena) (p1:(List Pair)) (p2:Int):Option (Parity×(List Place)×Bool):=
 bu (jw p0) λx25=>
 bu (bif (!x25) then
 some true
 else
 bu (jz p1 (p0.Owner.length:Int)) λx30=>
 some (!x30)) λp32=>
 bu (bif p32 then
 some true
 else
 bu (dd p2 0 (IntKind.i64.wrap ((p0.Owner.length:Int)-1))) λx37=>
 some (!x37)) λp39=>
 bif p39 then
  some (((⟨(⟨([]:List Int),([]:List (List Int))⟩:Arena),([]:List Int)⟩:Parity):Parity),(([]:List Place):(List Place)),false)
 else
  bu (cntM dM p1.length 0 (([]:List Int):(List Int))) λq2=>
  aft (λr=>some r) (λs3=>
   bu (bI (dO p0 p1) (2 ^ 64) ((([(⟨p2,s3⟩:Place)]:List Place):(List Place)),(0:Int),(([]:List Int):(List Int)),(([]:List (List Int)):(List (List Int))),(([]:List Int):(List Int)))) λq5=>
   aft (λr=>some r) (λs6=>
    some (((⟨(⟨s6.2.2.1,s6.2.2.2.1⟩:Arena),s6.2.2.2.2⟩:Parity):Parity),s6.1,true)) q5) q2
def fR (p0:Parity) (v3:Int) (s1:Unit):Option (Bool⊕((Unit)⊕(Unit))):=
 bu (idx p0.Prio v3) λx28=>
 bu (dd x28 0 40) λx30=>
 bif (!x30) then
  some (.inl (false:Bool))
 else
  some (.inr (.inr ()))
def iB (p0:Parity):Option (Bool):=
 bu (jw p0.Arena) λx6=>
 bu (bif (!x6) then
 some true
 else
 some ((p0.Prio.length:Int) !=(p0.Arena.Owner.length:Int))) λp17=>
 bif p17 then
  some (false:Bool)
 else
  bu (cntM (fR p0) p0.Prio.length 0 ()) λq2=>
  aft (λr=>some r) (λs3=>
   some (true:Bool)) q2
def jg  (v4:Int) (s1:(List Int)):Option ((List Int)⊕(((List Int))⊕((List Int)))):=
 bu (appS 8 s1 ([(-1)]:List Int)) λx13=>
 some (.inr (.inr (x13:(List Int))))
def mr (p0:Int):Option ((List Int)):=
 bu (rng p0) λ_=>
 bu (cntM jg (yn (p0-0)) 0 (([]:List Int):(List Int))) λq2=>
 aft (λr=>some r) (λs3=>
  some (s3:(List Int))) q2
def lw (p0:(List Int)) (p1:Int) (v5:Int) (s1:Unit):Option (Bool⊕((Unit)⊕(Unit))):=
 bu (idx p0 v5) λx14=>
 bif (x14==p1) then
  some (.inl (true:Bool))
 else
  some (.inr (.inr ()))
def ot (p0:(List Int)) (p1:Int):Option (Bool):=
 bu (cntM (lw p0 p1) p0.length 0 ()) λq2=>
 aft (λr=>some r) (λs3=>
  some (false:Bool)) q2
def gD (p0:Parity) (p1:(List Int)) (v5:Int) (s1:Unit):Option (Bool⊕((Unit)⊕(Unit))):=
 bu (idx p1 v5) λx20=>
 bu (bif (x20 !=(-1)) then
 bu (idx p1 v5) λx32=>
 bu (idx p0.Arena.Next v5) λx28=>
 bu (ot x28 x32) λx34=>
 some (!x34)
 else
 some false) λp36=>
 bif p36 then
  some (.inl (false:Bool))
 else
  some (.inr (.inr ()))
def kB (p0:Parity) (p1:(List Int)):Option (Bool):=
 bif ((p1.length:Int) !=(p0.Prio.length:Int)) then
  some (false:Bool)
 else
  bu (cntM (gD p0 p1) p1.length 0 ()) λq2=>
  aft (λr=>some r) (λs3=>
   some (true:Bool)) q2
def iQ (p0:Parity) (p1:(List Int)) (v7:Int) (s1:(List (List Int))):Option ((Parity×Bool)⊕(((List (List Int)))⊕((List (List Int))))):=
 bu (idx p0.Arena.Next v7) λx38=>
 bu (cA x38) λx40=>
 bu (idx p1 v7) λx43=>
 bu (bif decide (0<=x43) then
  bu (idx p1 v7) λx48=>
  some (([x48]:List Int):(List Int))
 else
  some (x40:(List Int))) λq4=>
 bu (appS 24 s1 ([q4]:List (List Int))) λx56=>
 some (.inr (.inr (x56:(List (List Int)))))
def mE (p0:Parity) (p1:(List Int)):Option (Parity×Bool):=
 bu (iB p0) λx10=>
 bu (bif (!x10) then
 some true
 else
 bu (kB p0 p1) λx15=>
 some (!x15)) λp17=>
 bif p17 then
  some (((⟨(⟨([]:List Int),([]:List (List Int))⟩:Arena),([]:List Int)⟩:Parity):Parity),false)
 else
  bu (cA p0.Arena.Owner) λx22=>
  bu (cA p0.Prio) λx26=>
  bu (cntM (iQ p0 p1) p1.length 0 (((⟨(⟨x22,([]:List (List Int))⟩:Arena),x26⟩:Parity).Arena).Next:(List (List Int)))) λq2=>
  aft (λr=>some r) (λs3=>
   some (((⟨(⟨((⟨(⟨x22,([]:List (List Int))⟩:Arena),x26⟩:Parity).Arena).Owner,s3⟩:Arena),(⟨(⟨x22,([]:List (List Int))⟩:Arena),x26⟩:Parity).Prio⟩:Parity):Parity),true)) q2
def kE (p0:Parity) (v5:Int) (s4:Int×(List (List Int))):Option (l7Game⊕((Int×(List (List Int)))⊕(Int×(List (List Int))))):=
 bu (idx p0.Arena.Next v5) λx38=>
 bif decide (s4.1<(x38.length:Int)) then
  bu (idx p0.Arena.Next v5) λx48=>
  bu (idx x48 s4.1) λx51=>
  bu (idx s4.2 x51) λx59=>
  bu (appS 8 x59 ([v5]:List Int)) λx63=>
  bu (idx s4.2 x51) λx64=>
  bu (setI s4.2 x51 (x63:(List Int))) λy255=>
  some (.inr (.inr (((IntKind.i64.wrap (s4.1+1)):Int),y255)))
 else
  some (.inr (.inl (s4.1,s4.2)))
def kI (p0:Parity) (v5:Int) (s1:(List (List Int))×(List Int)):Option (l7Game⊕(((List (List Int))×(List Int))⊕((List (List Int))×(List Int)))):=
 bu (idx s1.2 v5) λx32=>
 bu (setI s1.2 v5 (-1)) λy253=>
 bu (bI (kE p0 v5) (2 ^ 64) ((0:Int),s1.1)) λq5=>
 aft (λr=>some (.inl r)) (λs6=>
  some (.inr (.inr (s6.2,y253)))) q5
def oo (p0:Parity):Option (l7Game):=
 bu (mkS 24 (p0.Prio.length:Int) (([]:List Int):(List Int))) λx20=>
 bu (mkS 8 (p0.Prio.length:Int) (0:Int)) λx22=>
 bu (cntM (kI p0) p0.Prio.length 0 (((⟨p0.Arena.Owner,p0.Prio,p0.Arena.Next,x20,x22⟩:l7Game).prev:(List (List Int))),((⟨p0.Arena.Owner,p0.Prio,p0.Arena.Next,x20,x22⟩:l7Game).pick:(List Int)))) λq2=>
 aft (λr=>some r) (λs3=>
  some ((⟨(⟨p0.Arena.Owner,p0.Prio,p0.Arena.Next,x20,x22⟩:l7Game).owner,(⟨p0.Arena.Owner,p0.Prio,p0.Arena.Next,x20,x22⟩:l7Game).prio,(⟨p0.Arena.Owner,p0.Prio,p0.Arena.Next,x20,x22⟩:l7Game).next,s3.1,s3.2⟩:l7Game):l7Game)) q2
def jN  (v4:Int) (s1:(List Bool)):Option ((List Bool)⊕(((List Bool))⊕((List Bool)))):=
 bu (idx s1 v4) λx14=>
 bu (setI s1 v4 true) λy258=>
 some (.inr (.inr (y258:(List Bool))))
def nT (p0:Int):Option ((List Bool)):=
 bu (mkS 1 p0 (false:Bool)) λx6=>
 bu (rng p0) λ_=>
 bu (cntM jN (yn (p0-0)) 0 (x6:(List Bool))) λq2=>
 aft (λr=>some r) (λs3=>
  some (s3:(List Bool))) q2
def jP (p0:l7Game) (p1:(List Bool)) (v6:Int) (s1:Int):Option (Int⊕((Int)⊕(Int))):=
 bu (idx p1 v6) λx15=>
 bu (bif x15 then
  bu (idx p0.prio v6) λx21=>
  bu (gb s1 x21) λx23=>
  some (x23:Int)
 else
  some (s1:Int)) λq4=>
 some (.inr (.inr (q4:Int)))
def nZ (p0:l7Game) (p1:(List Bool)):Option (Int):=
 bu (cntM (jP p0 p1) p1.length 0 ((-1):Int)) λq2=>
 aft (λr=>some r) (λs3=>
  some (s3:Int)) q2
def kH (p0:l7Game) (p1:Int) (p2:Int):Option (Bool):=
 bu (idx p0.pick p1) λx10=>
 bu (bif decide (x10<0) then
 some true
 else
 bu (idx p0.pick p1) λx17=>
 some (x17==p2)) λp21=>
 some (p21:Bool)
def fP (p0:l7Game) (p1:(List Bool)) (p2:Int) (s1:Int×Int):Option (Int⊕((Int×Int)⊕(Int×Int))):=
 bu (idx p0.next p2) λx14=>
 bif decide (s1.2<(x14.length:Int)) then
  bu (idx p0.next p2) λx23=>
  bu (idx x23 s1.2) λx26=>
  bu (idx p1 x26) λx30=>
  bu (bif x30 then
  bu (kH p0 p2 x26) λx36=>
  some x36
  else
  some false) λp37=>
  bu (bif p37 then
   some ((IntKind.i64.wrap (s1.1+1)):Int)
  else
   some (s1.1:Int)) λq4=>
  some (.inr (.inr (q4,((IntKind.i64.wrap (s1.2+1)):Int))))
 else
  some (.inr (.inl (s1.1,s1.2)))
def j8 (p0:l7Game) (p1:(List Bool)) (p2:Int):Option (Int):=
 bu (bI (fP p0 p1 p2) (2 ^ 64) ((0:Int),(0:Int))) λq2=>
 aft (λr=>some r) (λs3=>
  some (s3.1:Int)) q2
def eg (p0:l7Game) (p1:(List Bool)) (p3:(List Bool)) (v12:Int) (s1:(List Int)×(List Bool)×(List Int)):Option ((List Bool)⊕(((List Int)×(List Bool)×(List Int))⊕((List Int)×(List Bool)×(List Int)))):=
 bu (idx p1 v12) λx32=>
 bu (bif x32 then
  bu (j8 p0 p1 v12) λx39=>
  bu (idx s1.2.2 v12) λx40=>
  bu (setI s1.2.2 v12 x39) λy271=>
  some (y271:(List Int))
 else
  some (s1.2.2:(List Int))) λq4=>
 bu (idx p1 v12) λx43=>
 bu (bif x43 then
 bu (idx p3 v12) λx48=>
 some x48
 else
 some false) λp50=>
 bu (bif p50 then
  bu (idx s1.2.1 v12) λx53=>
  bu (setI s1.2.1 v12 true) λy272=>
  bu (appS 8 s1.1 ([v12]:List Int)) λx57=>
  some (x57,y272)
 else
  some (s1.1,s1.2.1)) λq5=>
 some (.inr (.inr (q5.1,q5.2,q4)))
def du (p0:l7Game) (p1:(List Bool)) (p2:Int) (x66:Int) (s9:(List Int)×Int×(List Bool)×(List Int)):Option ((List Bool)⊕(((List Int)×Int×(List Bool)×(List Int))⊕((List Int)×Int×(List Bool)×(List Int)))):=
 bu (idx p0.prev x66) λx72=>
 bif decide (s9.2.1<(x72.length:Int)) then
  bu (idx p0.prev x66) λx81=>
  bu (idx x81 s9.2.1) λx84=>
  bu (idx p1 x84) λx88=>
  bu (bif (!x88) then
  some true
  else
  bu (idx s9.2.2.1 x84) λx94=>
  some x94) λp96=>
  bu (bif p96 then
  some true
  else
  bu (kH p0 x84 x66) λx101=>
  some (!x101)) λp103=>
  bif p103 then
   some (.inr (.inr (s9.1,((IntKind.i64.wrap (s9.2.1+1)):Int),s9.2.2.1,s9.2.2.2)))
  else
   bu (idx s9.2.2.2 x84) λx106=>
   bu (idx s9.2.2.2 x84) λx109=>
   bu (setI s9.2.2.2 x84 (IntKind.i64.wrap (x106-1))) λy275=>
   bu (idx p0.owner x84) λx113=>
   bu (bif (x113==p2) then
   some true
   else
   bu (idx y275 x84) λx120=>
   some (x120==0)) λp123=>
   bu (bif p123 then
    bu (idx s9.2.2.1 x84) λx126=>
    bu (setI s9.2.2.1 x84 true) λy276=>
    bu (appS 8 s9.1 ([x84]:List Int)) λx130=>
    some (x130,y276)
   else
    some (s9.1,s9.2.2.1)) λq12=>
   some (.inr (.inr (q12.1,((IntKind.i64.wrap (s9.2.1+1)):Int),q12.2,y275)))
 else
  some (.inr (.inl (s9.1,s9.2.1,s9.2.2.1,s9.2.2.2)))
def ft (p0:l7Game) (p1:(List Bool)) (p2:Int) (s6:(List Int)×Int×(List Bool)×(List Int)):Option ((List Bool)⊕(((List Int)×Int×(List Bool)×(List Int))⊕((List Int)×Int×(List Bool)×(List Int)))):=
 bif decide (s6.2.1<(s6.1.length:Int)) then
  bu (idx s6.1 s6.2.1) λx66=>
  bu (bI (du p0 p1 p2 x66) (2 ^ 64) (s6.1,(0:Int),s6.2.2.1,s6.2.2.2)) λq10=>
  aft (λr=>some (.inl r)) (λs11=>
   some (.inr (.inr (s11.1,((IntKind.i64.wrap (s6.2.1+1)):Int),s11.2.2.1,s11.2.2.2)))) q10
 else
  some (.inr (.inl (s6.1,s6.2.1,s6.2.2.1,s6.2.2.2)))
def gt (p0:l7Game) (p1:(List Bool)) (p2:Int) (p3:(List Bool)):Option ((List Bool)):=
 bu (mkS 1 (p1.length:Int) (false:Bool)) λx19=>
 bu (mkS 8 (p1.length:Int) (0:Int)) λx22=>
 bu (cntM (eg p0 p1 p3) p1.length 0 ((([]:List Int):(List Int)),x19,x22)) λq2=>
 aft (λr=>some r) (λs3=>
  bu (bI (ft p0 p1 p2) (2 ^ 64) (s3.1,(0:Int),s3.2.1,s3.2.2)) λq7=>
  aft (λr=>some r) (λs8=>
   some (s8.2.2.1:(List Bool))) q7) q2
def iZ (p0:(List Bool)) (p1:(List Bool)) (v6:Int) (s1:(List Bool)):Option ((List Bool)⊕(((List Bool))⊕((List Bool)))):=
 bu (idx p0 v6) λx20=>
 bu (bif x20 then
 bu (idx p1 v6) λx25=>
 some (!x25)
 else
 some false) λp28=>
 bu (idx s1 v6) λx29=>
 bu (setI s1 v6 p28) λy280=>
 some (.inr (.inr (y280:(List Bool))))
def kG (p0:(List Bool)) (p1:(List Bool)):Option ((List Bool)):=
 bu (mkS 1 (p0.length:Int) (false:Bool)) λx9=>
 bu (cntM (iZ p0 p1) p0.length 0 (x9:(List Bool))) λq2=>
 aft (λr=>some r) (λs3=>
  some (s3:(List Bool))) q2
def jY (p0:l7Game) (p1:(List Bool)) (x21:Int) (v9:Int) (s1:(List Bool)):Option ((List Bool)⊕(((List Bool))⊕((List Bool)))):=
 bu (idx p1 v9) λx43=>
 bu (bif x43 then
 bu (idx p0.prio v9) λx49=>
 some (x49==x21)
 else
 some false) λp53=>
 bu (idx s1 v9) λx54=>
 bu (setI s1 v9 p53) λy264=>
 some (.inr (.inr (y264:(List Bool))))
def iz (x21:Int) (x61:(List Bool)) (x64:(List Bool)) (v14:Int) (s4:Bool×(List Bool)):Option ((List Bool)⊕((Bool×(List Bool))⊕(Bool×(List Bool)))):=
 bu (idx x61 v14) λx78=>
 bu (bif x78 then
 bu (idx x64 v14) λx83=>
 some (x83 !=((Int.tmod x21 2)==0))
 else
 some false) λp88=>
 bu (idx s4.2 v14) λx89=>
 bu (setI s4.2 v14 p88) λy283=>
 bu (bif s4.1 then
 some true
 else
 bu (idx y283 v14) λx94=>
 some x94) λp96=>
 some (.inr (.inr (p96,y283)))
def jF (p1:(List Bool)) (x21:Int) (v15:Int) (s7:(List Bool)):Option ((List Bool)⊕(((List Bool))⊕((List Bool)))):=
 bu (idx p1 v15) λx109=>
 bu (bif x109 then
 some ((Int.tmod x21 2)==0)
 else
 some false) λp114=>
 bu (idx s7 v15) λx115=>
 bu (setI s7 v15 p114) λy284=>
 some (.inr (.inr (y284:(List Bool))))
def jQ (x21:Int) (x122:(List Bool)) (x127:(List Bool)) (v18:Int) (s10:(List Bool)):Option ((List Bool)⊕(((List Bool))⊕((List Bool)))):=
 bu (idx x127 v18) λx138=>
 bu (bif x138 then
 some true
 else
 bu (idx x122 v18) λx143=>
 bu (bif x143 then
 some ((Int.tmod x21 2)==1)
 else
 some false) λp148=>
 some p148) λp149=>
 bu (idx s10 v18) λx150=>
 bu (setI s10 v18 p149) λy288=>
 some (.inr (.inr (y288:(List Bool))))
def iF (rc:l7Game->(List Bool)->Option ((List Bool))) (p0:l7Game) (p1:(List Bool)):Option ((List Bool)):=
 bu (nZ p0 p1) λx21=>
 bu (mkS 1 (p1.length:Int) (false:Bool)) λx24=>
 bif decide (x21<0) then
  some (x24:(List Bool))
 else
  bu (mkS 1 (p1.length:Int) (false:Bool)) λx32=>
  bu (cntM (jY p0 p1 x21) p1.length 0 (x32:(List Bool))) λq2=>
  aft (λr=>some r) (λs3=>
   bu (gt p0 p1 (Int.tmod x21 2) s3) λx60=>
   bu (kG p1 x60) λx61=>
   bu (rc p0 x61) λx64=>
   bu (mkS 1 (p1.length:Int) (false:Bool)) λx67=>
   bu (cntM (iz x21 x61 x64) p1.length 0 (false,x67)) λq5=>
   aft (λr=>some r) (λs6=>
    bif (!s6.1) then
     bu (cntM (jF p1 x21) p1.length 0 (x24:(List Bool))) λq8=>
     aft (λr=>some r) (λs9=>
      some (s9:(List Bool))) q8
    else
     bu (gt p0 p1 (IntKind.i64.wrap (1-(Int.tmod x21 2))) s6.2) λx122=>
     bu (kG p1 x122) λx126=>
     bu (rc p0 x126) λx127=>
     bu (cntM (jQ x21 x122 x127) p1.length 0 (x24:(List Bool))) λq11=>
     aft (λr=>some r) (λs12=>
      some (s12:(List Bool))) q11) q5) q2
def kj:Nat->l7Game->(List Bool)->Option ((List Bool))
 | 0=>λ_ _=>none
 | n+1=>iF (kj n)
def jS (x12:(List Bool)) (v5:Int) (s1:(List Int)):Option ((List Int)⊕(((List Int))⊕((List Int)))):=
 bu (idx x12 v5) λx23=>
 bu (gw x23) λx25=>
 bu (appS 8 s1 ([(IntKind.i64.wrap (1-x25))]:List Int)) λx28=>
 some (.inr (.inr (x28:(List Int))))
def g6 (p0:Parity):Option ((List Int)):=
 bu (oo p0) λx7=>
 bu (nT (p0.Prio.length:Int)) λx11=>
 bu (kj (2 ^ 64) x7 x11) λx12=>
 bu (cntM (jS x12) x12.length 0 (([]:List Int):(List Int))) λq2=>
 aft (λr=>some r) (λs3=>
  some (s3:(List Int))) q2
def jh (p0:(List Int)) (p1:(List Int)) (v5:Int) (s1:Unit):Option (Bool⊕((Unit)⊕(Unit))):=
 bu (idx p0 v5) λx19=>
 bu (idx p1 v5) λx23=>
 bif (x19 !=x23) then
  some (.inl (false:Bool))
 else
  some (.inr (.inr ()))
def l9 (p0:(List Int)) (p1:(List Int)):Option (Bool):=
 bif ((p0.length:Int) !=(p1.length:Int)) then
  some (false:Bool)
 else
  bu (cntM (jh p0 p1) p0.length 0 ()) λq2=>
  aft (λr=>some r) (λs3=>
   some (true:Bool)) q2
def kc (p0:Parity) (p1:(List Int)):Option (Bool):=
 bu (mE p0 p1) λx10=>
 bu (bif x10.2 then
 bu (g6 x10.1) λx16=>
 bu (g6 p0) λx18=>
 bu (l9 x16 x18) λx19=>
 some x19
 else
 some false) λp20=>
 some (p20:Bool)
def fZ (p0:(List Int)) (p1:Int) (v6:Int) (s1:(List Bool)):Option ((List Bool)⊕(((List Bool))⊕((List Bool)))):=
 bu (idx p0 v6) λx20=>
 bu (idx s1 v6) λx24=>
 bu (setI s1 v6 (x20==p1)) λy299=>
 some (.inr (.inr (y299:(List Bool))))
def fh (p0:(List Int)) (p1:Int):Option ((List Bool)):=
 bu (mkS 1 (p0.length:Int) (false:Bool)) λx9=>
 bu (cntM (fZ p0 p1) p0.length 0 (x9:(List Bool))) λq2=>
 aft (λr=>some r) (λs3=>
  some (s3:(List Bool))) q2
def gA (p1:(List Bool)) (p2:Int) (x11:(List Bool)) (v8:Int) (s1:Unit):Option (Bool⊕((Unit)⊕(Unit))):=
 bu (idx p1 v8) λx20=>
 bu (bif x20 then
 bu (idx x11 v8) λx25=>
 some (x25 !=(p2==0))
 else
 some false) λp30=>
 bif p30 then
  some (.inl (false:Bool))
 else
  some (.inr (.inr ()))
def kO (p0:l7Game) (p1:(List Bool)) (p2:Int):Option (Bool):=
 bu (kj (2 ^ 64) p0 p1) λx11=>
 bu (cntM (gA p1 p2 x11) p1.length 0 ()) λq2=>
 aft (λr=>some r) (λs3=>
  some (true:Bool)) q2
def iX (p0:l7Game) (p1:(List Bool)) (p2:Int) (s1:Int×(List Int)):Option ((Int×(List Int))⊕((Int×(List Int))⊕(Int×(List Int)))):=
 bu (idx p0.next p2) λx13=>
 bif decide (s1.1<(x13.length:Int)) then
  bu (idx p0.next p2) λx22=>
  bu (idx x22 s1.1) λx25=>
  bu (idx p1 x25) λx29=>
  bif (!x29) then
   some (.inr (.inr (((IntKind.i64.wrap (s1.1+1)):Int),s1.2)))
  else
   bu (idx s1.2 p2) λx36=>
   bu (setI s1.2 p2 x25) λy302=>
   bu (idx p0.owner p2) λx42=>
   bu (kO (⟨p0.owner,p0.prio,p0.next,p0.prev,y302⟩:l7Game) p1 x42) λx44=>
   bif x44 then
    some (.inl (x25,y302))
   else
    some (.inr (.inr (((IntKind.i64.wrap (s1.1+1)):Int),y302)))
 else
  some (.inr (.inl (s1.1,s1.2)))
def mn (p0:l7Game) (p1:(List Bool)) (p2:Int):Option (Int×(List Int)):=
 bu (bI (iX p0 p1 p2) (2 ^ 64) ((0:Int),p0.pick)) λq2=>
 aft (λr=>some r) (λs3=>
  some (((-1):Int),s3.2)) q2
def fO (p0:Parity) (p1:(List Int)) (x19:(List Int)) (v8:Int) (s1:(List Int)):Option ((Answer×Bool)⊕(((List Int))⊕((List Int)))):=
 bu (idx p1 v8) λx30=>
 bu (bif (x30 !=(-1)) then
 bu (idx x19 v8) λx36=>
 bu (idx p0.Arena.Owner v8) λx42=>
 some (x36 !=x42)
 else
 some false) λp45=>
 bif p45 then
  some (.inl (((⟨([]:List Int),([]:List Int)⟩:Answer):Answer),false))
 else
  bu (idx p1 v8) λx52=>
  bu (idx s1 v8) λx54=>
  bu (setI s1 v8 x52) λy296=>
  some (.inr (.inr (y296:(List Int))))
def fS (p0:Parity) (x19:(List Int)) (x21:l7Game) (x56:(List Bool)) (x58:(List Bool)) (v11:Int) (s4:(List Int)):Option ((Answer×Bool)⊕(((List Int))⊕((List Int)))):=
 bu (idx s4 v11) λx68=>
 bu (bif decide (0<=x68) then
 some true
 else
 bu (idx x19 v11) λx74=>
 bu (idx p0.Arena.Owner v11) λx80=>
 some (x74 !=x80)) λp83=>
 bif p83 then
  some (.inr (.inr (s4:(List Int))))
 else
  bu (idx x19 v11) λx87=>
  bu (bif (x87==1) then
   some (x58:(List Bool))
  else
   some (x56:(List Bool))) λq7=>
  bu (mn (⟨x21.owner,x21.prio,x21.next,x21.prev,s4⟩:l7Game) q7 v11) λx97=>
  bu (idx x97.2 v11) λx98=>
  bu (setI x97.2 v11 x97.1) λy305=>
  some (.inr (.inr (y305:(List Int))))
def jO (p0:Parity) (p1:(List Int)):Option (Answer×Bool):=
 bu (kc p0 p1) λx15=>
 bif (!x15) then
  some (((⟨([]:List Int),([]:List Int)⟩:Answer):Answer),false)
 else
  bu (g6 p0) λx19=>
  bu (oo p0) λx21=>
  bu (cntM (fO p0 p1 x19) p1.length 0 (x21.pick:(List Int))) λq2=>
  aft (λr=>some r) (λs3=>
   bu (fh x19 0) λx56=>
   bu (fh x19 1) λx58=>
   bu (cntM (fS p0 x19 x21 x56 x58) x19.length 0 (s3:(List Int))) λq5=>
   aft (λr=>some r) (λs6=>
    some (((⟨x19,s6⟩:Answer):Answer),true)) q5) q2
def j0 (p0:Parity):Option (Answer):=
 bu (iB p0) λx6=>
 bif (!x6) then
  some ((⟨([]:List Int),([]:List Int)⟩:Answer):Answer)
 else
  bu (mr (p0.Prio.length:Int)) λx14=>
  bu (jO p0 x14) λx15=>
  some (x15.1:Answer)
def jT (p0:Sig) (p1:Det) (p2:Int) (p3:Int):Option (Int):=
 bu (gC p0 p1) λx15=>
 bu (bif (!x15) then
 some true
 else
 bu (dd p2 0 (IntKind.i64.wrap ((p1.Next.length:Int)-1))) λx21=>
 some (!x21)) λp23=>
 bu (bif p23 then
 some true
 else
 bu (cH p0) λx27=>
 bu (dd p3 (-1) (IntKind.i64.wrap (x27-1))) λx29=>
 some (!x29)) λp31=>
 bif p31 then
  some ((-1):Int)
 else
  bif (p3==(-1)) then
   some (p2:Int)
  else
   bu (cH p0) λx38=>
   some ((IntKind.i64.wrap ((IntKind.i64.wrap ((p1.Next.length:Int)+(IntKind.i64.wrap (p2 * x38))))+p3)):Int)
def kb (p0:Parity) (p1:(List Place)) (p2:Int) (p3:Int) (s1:Int):Option (Int⊕((Int)⊕(Int))):=
 bu (idx p0.Arena.Next p2) λx16=>
 bif decide (s1<(x16.length:Int)) then
  bu (idx p0.Arena.Next p2) λx26=>
  bu (idx x26 s1) λx29=>
  bu (idx p1 x29) λx33=>
  bif (x33.At==p3) then
   some (.inl (x29:Int))
  else
   some (.inr (.inr ((IntKind.i64.wrap (s1+1)):Int)))
 else
  some (.inr (.inl (s1:Int)))
def nR (p0:Parity) (p1:(List Place)) (p2:Int) (p3:Int):Option (Int):=
 bu (bI (kb p0 p1 p2 p3) (2 ^ 64) (0:Int)) λq2=>
 aft (λr=>some r) (λs3=>
  some ((-1):Int)) q2
def gR (p0:(List Int)) (p1:Int) (v5:Int) (s1:Unit):Option (Int⊕((Unit)⊕(Unit))):=
 bu (idx p0 v5) λx14=>
 bif (x14==p1) then
  some (.inl (v5:Int))
 else
  some (.inr (.inr ()))
def iq (p0:(List Int)) (p1:Int):Option (Int):=
 bu (cntM (gR p0 p1) p0.length 0 ()) λq2=>
 aft (λr=>some r) (λs3=>
  some ((-1):Int)) q2
def fi (p0:Sig) (p1:Det) (p2:Int) (p3:Int) (p4:Int) (s1:(List Int)×Int):Option ((List Int)⊕(((List Int)×Int)⊕((List Int)×Int))):=
 bu (cw p0.Out) λx39=>
 bif decide (s1.2<x39) then
  bu (idx p1.Next p2) λx46=>
  bu (dQ p0 p3 s1.2) λx51=>
  bu (idx x46 x51) λx52=>
  bu (bif (x52==p4) then
   bu (appS 8 s1.1 ([s1.2]:List Int)) λx59=>
   some (x59:(List Int))
  else
   some (s1.1:(List Int))) λq4=>
  some (.inr (.inr (q4,((IntKind.i64.wrap (s1.2+1)):Int))))
 else
  some (.inr (.inl (s1.1,s1.2)))
def jm (p0:Sig) (p1:Det) (p2:Int) (p3:Int) (p4:Int):Option ((List Int)):=
 bu (gC p0 p1) λx16=>
 bu (bif (!x16) then
 some true
 else
 bu (dd p2 0 (IntKind.i64.wrap ((p1.Next.length:Int)-1))) λx24=>
 some (!x24)) λp26=>
 bu (bif p26 then
 some true
 else
 bu (cH p0) λx30=>
 bu (dd p3 0 (IntKind.i64.wrap (x30-1))) λx32=>
 some (!x32)) λp34=>
 bif p34 then
  some (([]:List Int):(List Int))
 else
  bu (bI (fi p0 p1 p2 p3 p4) (2 ^ 64) ((([]:List Int):(List Int)),(0:Int))) λq2=>
  aft (λr=>some r) (λs3=>
   some (s3.1:(List Int))) q2
def ey (p0:Sig) (p1:Det) (p2:Parity) (p3:(List Place)) (p4:(List Int)) (s1:(List Int)×Int×(List (List Int))×(List (List Int))) (x33:Place) (s4:(List Int)×(List Int)×(List Int)×Int):Option ((Machine×Bool)⊕(((List Int)×(List Int)×(List Int)×Int)⊕((List Int)×(List Int)×(List Int)×Int))):=
 bu (gZ p0) λx40=>
 bif decide (s4.2.2.2<x40) then
  bu (idx s4.1 s1.2.1) λx49=>
  bu (jT p0 p1 x33.At s4.2.2.2) λx55=>
  bu (nR p2 p3 x49 x55) λx56=>
  bu (idx p4 x56) λx57=>
  bu (iq s4.1 x57) λx61=>
  bu (bif decide (x61<0) then
   bu (appS 8 s4.1 ([x57]:List Int)) λx66=>
   some (x66:(List Int))
  else
   some (s4.1:(List Int))) λq7=>
  bu (iq q7 x57) λx70=>
  bu (appS 8 s4.2.1 ([x70]:List Int)) λx72=>
  bu (idx p3 x57) λx80=>
  bu (jm p0 p1 x33.At s4.2.2.2 x80.At) λx83=>
  bu (idx x83 0) λx84=>
  bu (appS 8 s4.2.2.1 ([x84]:List Int)) λx87=>
  some (.inr (.inr (q7,x72,x87,((IntKind.i64.wrap (s4.2.2.2+1)):Int))))
 else
  some (.inr (.inl (s4.1,s4.2.1,s4.2.2.1,s4.2.2.2)))
def fx (p0:Sig) (p1:Det) (p2:Parity) (p3:(List Place)) (p4:(List Int)) (s1:(List Int)×Int×(List (List Int))×(List (List Int))):Option ((Machine×Bool)⊕(((List Int)×Int×(List (List Int))×(List (List Int)))⊕((List Int)×Int×(List (List Int))×(List (List Int))))):=
 bif decide (s1.2.1<(s1.1.length:Int)) then
  bu (idx s1.1 s1.2.1) λx31=>
  bu (idx p3 x31) λx33=>
  bu (bI (ey p0 p1 p2 p3 p4 s1 x33) (2 ^ 64) (s1.1,(([]:List Int):(List Int)),(([]:List Int):(List Int)),(0:Int))) λq5=>
  aft (λr=>some (.inl r)) (λs6=>
   bif decide (48<(s6.1.length:Int)) then
    some (.inl (((⟨([]:List (List Int)),([]:List (List Int))⟩:Machine):Machine),false))
   else
    bu (appS 24 s1.2.2.1 ([s6.2.1]:List (List Int))) λx96=>
    bu (appS 24 s1.2.2.2 ([s6.2.2.1]:List (List Int))) λx102=>
    some (.inr (.inr (s6.1,((IntKind.i64.wrap (s1.2.1+1)):Int),x96,x102)))) q5
 else
  some (.inr (.inl (s1.1,s1.2.1,s1.2.2.1,s1.2.2.2)))
def kK (p0:Sig) (p1:Det) (p2:Parity) (p3:(List Place)) (p4:(List Int)):Option (Machine×Bool):=
 bu (bI (fx p0 p1 p2 p3 p4) (2 ^ 64) ((([0]:List Int):(List Int)),(0:Int),(([]:List (List Int)):(List (List Int))),(([]:List (List Int)):(List (List Int))))) λq2=>
 aft (λr=>some r) (λs3=>
  some (((⟨s3.2.2.1,s3.2.2.2⟩:Machine):Machine),true)) q2
def gr (p0:Sig) (p1:(List Clause)):Option (Machine×Bool):=
 bu (dF p0 p1) λx18=>
 bif (!x18.2) then
  some (((⟨([]:List (List Int)),([]:List (List Int))⟩:Machine):Machine),false)
 else
  bu (dh p0 x18.1) λx27=>
  bif (!x27.2.2) then
   some (((⟨([]:List (List Int)),([]:List (List Int))⟩:Machine):Machine),false)
  else
   bu (dp x27.1 x27.2.1 0) λx37=>
   bif (!x37.2.2) then
    some (((⟨([]:List (List Int)),([]:List (List Int))⟩:Machine):Machine),false)
   else
    bu (j0 x37.1) λx45=>
    bu (idx x45.Won 0) λx48=>
    bif (x48 !=0) then
     some (((⟨([]:List (List Int)),([]:List (List Int))⟩:Machine):Machine),false)
    else
     bu (kK p0 x18.1 x37.1 x37.2.1 x45.Plan) λx58=>
     some (x58.1,x58.2)
def fE (p0:Sig):Option (Int):=
 bu (cw p0.Out) λx5=>
 some (x5:Int)
def jE (p0:(List Int)) (p1:(List Place)) (p2:Int) (v7:Int) (s1:Unit):Option (Int⊕((Unit)⊕(Unit))):=
 bu (idx p0 v7) λx17=>
 bu (idx p1 x17) λx19=>
 bif (x19.At==p2) then
  bu (idx p0 v7) λx26=>
  some (.inl (x26:Int))
 else
  some (.inr (.inr ()))
def nO (p0:(List Int)) (p1:(List Place)) (p2:Int):Option (Int):=
 bu (cntM (jE p0 p1 p2) p0.length 0 ()) λq2=>
 aft (λr=>some r) (λs3=>
  some ((-1):Int)) q2
def dU (p0:Sig) (x29:Det×Bool) (x42:Parity×(List Place)×Bool) (x81:Place) (x90:Int) (x94:Place) (x100:Int) (s4:(List Int)×(List Int)×Int):Option ((Rival×Bool)⊕(((List Int)×(List Int)×Int)⊕((List Int)×(List Int)×Int))):=
 bu (fE p0) λx105=>
 bif decide (s4.2.2<x105) then
  bu (idx x42.1.Arena.Next x90) λx113=>
  bu (idx x29.1.Next x81.At) λx119=>
  bu (dQ p0 (Int.tmod (IntKind.i64.wrap (x94.At-(x29.1.Next.length:Int))) x100) s4.2.2) λx124=>
  bu (idx x119 x124) λx125=>
  bu (nO x113 x42.2.1 x125) λx127=>
  bu (iq s4.1 x127) λx130=>
  bu (bif decide (x130<0) then
   bu (appS 8 s4.1 ([x127]:List Int)) λx138=>
   some (x138,((s4.1.length:Int):Int))
  else
   some (s4.1,x130)) λq7=>
  bu (appS 8 s4.2.1 ([q7.2]:List Int)) λx142=>
  some (.inr (.inr (q7.1,x142,((IntKind.i64.wrap (s4.2.2+1)):Int))))
 else
  some (.inr (.inl (s4.1,s4.2.1,s4.2.2)))
def dm (p0:Sig) (x29:Det×Bool) (x42:Parity×(List Place)×Bool) (x58:Answer) (s1:(List Int)×Int×(List Int)×(List (List Int))):Option ((Rival×Bool)⊕(((List Int)×Int×(List Int)×(List (List Int)))⊕((List Int)×Int×(List Int)×(List (List Int))))):=
 bif decide (s1.2.1<(s1.1.length:Int)) then
  bu (idx s1.1 s1.2.1) λx79=>
  bu (idx x42.2.1 x79) λx81=>
  bu (idx s1.1 s1.2.1) λx88=>
  bu (idx x58.Plan x88) λx90=>
  bu (idx x42.2.1 x90) λx94=>
  bu (cH p0) λx100=>
  bu (nz x100) λ_z101=>
  bu (bI (dU p0 x29 x42 x81 x90 x94 x100) (2 ^ 64) (s1.1,(([]:List Int):(List Int)),(0:Int))) λq5=>
  aft (λr=>some (.inl r)) (λs6=>
   bu (appS 8 s1.2.2.1 ([(Int.tmod (IntKind.i64.wrap (x94.At-(x29.1.Next.length:Int))) x100)]:List Int)) λx147=>
   bu (appS 24 s1.2.2.2 ([s6.2.1]:List (List Int))) λx153=>
   some (.inr (.inr (s6.1,((IntKind.i64.wrap (s1.2.1+1)):Int),x147,x153)))) q5
 else
  some (.inr (.inl (s1.1,s1.2.1,s1.2.2.1,s1.2.2.2)))
def gj (p0:Sig) (p1:(List Clause)):Option (Rival×Bool):=
 bu (dF p0 p1) λx29=>
 bu (dh p0 x29.1) λx35=>
 bu (dp x35.1 x35.2.1 0) λx42=>
 bu (bif (!x29.2) then
 some true
 else
 some (!x35.2.2)) λp51=>
 bu (bif p51 then
 some true
 else
 some (!x42.2.2)) λp55=>
 bif p55 then
  some (((⟨([]:List Int),([]:List (List Int))⟩:Rival):Rival),false)
 else
  bu (j0 x42.1) λx58=>
  bu (idx x58.Won 0) λx61=>
  bif (x61==0) then
   some (((⟨([]:List Int),([]:List (List Int))⟩:Rival):Rival),false)
  else
   bu (bI (dm p0 x29 x42 x58) (2 ^ 64) ((([0]:List Int):(List Int)),(0:Int),(([]:List Int):(List Int)),(([]:List (List Int)):(List (List Int))))) λq2=>
   aft (λr=>some r) (λs3=>
    some (((⟨s3.2.2.1,s3.2.2.2⟩:Rival):Rival),true)) q2
def g7 (p0:l1Cur) (p1:Sig) (x26:Int×Int×Int) (s5:(List Int)×Int×Int×Int):Option ((Rival×Int×Int)⊕(((List Int)×Int×Int×Int)⊕((List Int)×Int×Int×Int))):=
 bu (ki p1.Out 2) λx37=>
 bu (cw x37) λx38=>
 bif decide (s5.2.1<x38) then
  bu (cb (⟨p0.b,s5.2.2.1,s5.2.2.2⟩:l1Cur) (IntKind.i64.wrap (1+x26.1))) λx45=>
  bu (appS 8 s5.1 ([x45.1]:List Int)) λx47=>
  some (.inr (.inr (x47,((IntKind.i64.wrap (s5.2.1+1)):Int),x45.2.1,x45.2.2)))
 else
  some (.inr (.inl (s5.1,s5.2.1,s5.2.2.1,s5.2.2.2)))
def ik (p0:l1Cur) (p1:Sig) (x26:Int×Int×Int) (v9:Int) (s2:Int×Int×(List Int)×(List (List Int))):Option ((Rival×Int×Int)⊕((Int×Int×(List Int)×(List (List Int)))⊕(Int×Int×(List Int)×(List (List Int))))):=
 bu (bI (g7 p0 p1 x26) (2 ^ 64) ((([]:List Int):(List Int)),(0:Int),s2.1,s2.2.1)) λq6=>
 aft (λr=>some (.inl r)) (λs7=>
  bu (cb (⟨p0.b,s7.2.2.1,s7.2.2.2⟩:l1Cur) 2) λx51=>
  bu (appS 8 s2.2.2.1 ([x51.1]:List Int)) λx53=>
  bu (appS 24 s2.2.2.2 ([s7.1]:List (List Int))) λx59=>
  some (.inr (.inr (x51.2.1,x51.2.2,x53,x59)))) q6
def kM (p0:l1Cur) (p1:Sig):Option (Rival×Int×Int):=
 bu (dg p0 2) λx13=>
 bu (bif x13.1 then
  bu (fw (⟨p0.b,x13.2.1,x13.2.2⟩:l1Cur) p1 2) λx18=>
  bu (gj p1 x18.1) λx19=>
  bif x19.2 then
   some (.inl (x19.1,x18.2.1,x18.2.2))
  else
   some (.inr (x18.2.1,x18.2.2))
 else
  some (.inr (x13.2.1,x13.2.2)):Option ((Rival×Int×Int)⊕(Int×Int))) λq1=>
 aft (λr=>some r) (λz1=>
  bu (cb (⟨p0.b,z1.1,z1.2⟩:l1Cur) 4) λx26=>
  bu (rng (IntKind.i64.wrap (1+x26.1))) λ_=>
  bu (cntM (ik p0 p1 x26) (yn ((IntKind.i64.wrap (1+x26.1))-0)) 0 (x26.2.1,x26.2.2,(([]:List Int):(List Int)),(([]:List (List Int)):(List (List Int))))) λq3=>
  aft (λr=>some r) (λs4=>
   bu (dg (⟨p0.b,s4.1,s4.2.1⟩:l1Cur) 12) λx62=>
   bu (bif x62.1 then
    bu (cb (⟨p0.b,x62.2.1,x62.2.2⟩:l1Cur) 3) λx64=>
    bu (bif (x64.1==0) then
     bu (fW (⟨p0.b,x64.2.1,x64.2.2⟩:l1Cur) (-1) 4) λx70=>
     bu (idx s4.2.2.1 0) λx71=>
     bu (setI s4.2.2.1 0 x70.1) λy366=>
     some (x70.2.1,x70.2.2,y366,s4.2.2.2)
    else
     bu (bif (x64.1==1) then
      bu (idx s4.2.2.2 0) λx78=>
      bu (appS 8 x78 ([0]:List Int)) λx81=>
      bu (idx s4.2.2.2 0) λx82=>
      bu (setI s4.2.2.2 0 (x81:(List Int))) λy368=>
      some (x64.2.1,x64.2.2,y368)
     else
      bu (bif (x64.1==2) then
       bu (idx s4.2.2.2 0) λx87=>
       bu (fW (⟨p0.b,x64.2.1,x64.2.2⟩:l1Cur) (-1) 5) λx90=>
       bu (idx x87 0) λx91=>
       bu (setI x87 0 x90.1) λy370=>
       bu (setI s4.2.2.2 0 y370) λyb370=>
       some (x90.2.1,x90.2.2,yb370)
      else
       some (x64.2.1,x64.2.2,s4.2.2.2)) λq11=>
      some (q11.1,q11.2.1,q11.2.2)) λq10=>
     some (q10.1,q10.2.1,s4.2.2.1,q10.2.2)) λq9=>
    some (q9.1,q9.2.1,q9.2.2.1,q9.2.2.2)
   else
    some (x62.2.1,x62.2.2,s4.2.2.1,s4.2.2.2)) λq8=>
   some (((⟨q8.2.2.1,q8.2.2.2⟩:Rival):Rival),q8.1,q8.2.1)) q3) q1
def g9 (p0:(List Int)):Option (Sig×Machine×Rival):=
 bu (mT p0) λx10=>
 bu (fC x10) λx12=>
 bu (eN p0) λx15=>
 bu (dg (⟨x10.b,x12.2.1,x12.2.2⟩:l1Cur) 3) λx19=>
 bu (bif x19.1 then
  bu (fw (⟨x10.b,x19.2.1,x19.2.2⟩:l1Cur) x12.1 1) λx24=>
  bu (gr x12.1 x24.1) λx25=>
  some (x25.1.Next,x25.1.Out,x24.2.1,x24.2.2)
 else
  some (x15.2.Next,x15.2.Out,x19.2.1,x19.2.2)) λq1=>
 bu (kM (⟨x10.b,q1.2.2.1,q1.2.2.2⟩:l1Cur) x12.1) λx32=>
 some (x12.1,((⟨q1.1,q1.2.1⟩:Machine):Machine),x32.1)
def jv (p0:Sig):Option (Bool):=
 bu (bif decide (1<=p0.In) then
 some (decide (p0.In<=2))
 else
 some false) λp10=>
 bu (bif p10 then
 some (decide (1<=p0.Out))
 else
 some false) λp15=>
 bu (bif p15 then
 some (decide (p0.Out<=2))
 else
 some false) λp20=>
 some (p20:Bool)
def cn (p0:Sig):Option (Int):=
 bu (nn p0.In) λ_z5=>
 some ((IntKind.i64.wrap (1 * 2 ^ (min (yn p0.In) (IntKind.bits IntKind.i64)))):Int)
def ee (p0:Int) (c0:Int):Option (Bool):=
 bu (bif decide (p0<0) then
 some true
 else
 some (decide (c0<=p0))) λp10=>
 some (p10:Bool)
def bN (p0:(List Int)) (c1_0:Int) (v8:Int) (s1:Unit):Option (Int⊕((Unit)⊕(Unit))):=
 bu (idx p0 v8) λx14=>
 bu (ee x14 c1_0) λx16=>
 bif x16 then
  some (.inl (v8:Int))
 else
  some (.inr (.inr ()))
def bQ (p0:(List Int)) (c1_0:Int):Option (Int):=
 bu (cntM (bN p0 c1_0) p0.length 0 ()) λq2=>
 aft (λr=>some r) (λs3=>
  some ((-1):Int)) q2
def bP (p0:(List Int)) (c1_0:Int):Option (Bool):=
 bu (bQ p0 c1_0) λx7=>
 some (decide (0<=x7):Bool)
def cM (p0:(List Int)) (p1:Int):Option (Bool):=
 bu (bP p0 p1) λx7=>
 some ((!x7):Bool)
def fl (p0:Sig) (p1:Machine) (v29:Int) (s1:Unit):Option (Bool⊕((Unit)⊕(Unit))):=
 bu (idx p1.Next v29) λx32=>
 bu (cn p0) λx37=>
 bu (bif ((x32.length:Int) !=x37) then
 some true
 else
 bu (idx p1.Out v29) λx43=>
 some ((x43.length:Int) !=(x32.length:Int))) λp49=>
 bu (bif p49 then
 some true
 else
 bu (cM x32 (p1.Next.length:Int)) λx53=>
 some (!x53)) λp55=>
 bu (bif p55 then
 some true
 else
 bu (idx p1.Out v29) λx60=>
 bu (nn p0.Out) λ_z64=>
 bu (cM x60 (IntKind.i64.wrap (1 * 2 ^ (min (yn p0.Out) (IntKind.bits IntKind.i64))))) λx65=>
 some (!x65)) λp67=>
 bif p67 then
  some (.inl (false:Bool))
 else
  some (.inr (.inr ()))
def jk (p0:Sig) (p1:Machine):Option (Bool):=
 bu (bif decide ((p1.Next.length:Int)<1) then
 some true
 else
 some (decide (48<(p1.Next.length:Int)))) λp16=>
 bu (bif p16 then
 some true
 else
 some ((p1.Out.length:Int) !=(p1.Next.length:Int))) λp25=>
 bif p25 then
  some (false:Bool)
 else
  bu (cntM (fl p0 p1) p1.Next.length 0 ()) λq2=>
  aft (λr=>some r) (λs3=>
   some (true:Bool)) q2
def gU (p0:Sig) (p1:Rival) (v37:Int) (s1:Unit):Option (Bool⊕((Unit)⊕(Unit))):=
 bu (idx p1.Next v37) λx39=>
 bu (nn p0.Out) λ_z45=>
 bu (bif ((x39.length:Int) !=(IntKind.i64.wrap (1 * 2 ^ (min (yn p0.Out) (IntKind.bits IntKind.i64))))) then
 some true
 else
 bu (cM x39 (p1.In.length:Int)) λx50=>
 some (!x50)) λp52=>
 bif p52 then
  some (.inl (false:Bool))
 else
  some (.inr (.inr ()))
def iy (p0:Sig) (p1:Rival):Option (Bool):=
 bu (bif decide ((p1.In.length:Int)<1) then
 some true
 else
 some (decide (256<(p1.In.length:Int)))) λp16=>
 bu (bif p16 then
 some true
 else
 some ((p1.Next.length:Int) !=(p1.In.length:Int))) λp25=>
 bu (bif p25 then
 some true
 else
 bu (cn p0) λx30=>
 bu (cM p1.In x30) λx31=>
 some (!x31)) λp33=>
 bif p33 then
  some (false:Bool)
 else
  bu (cntM (gU p0 p1) p1.Next.length 0 ()) λq2=>
  aft (λr=>some r) (λs3=>
   some (true:Bool)) q2
def fB (p0:(List Int)) (p1:Int):Option (Word×Bool):=
 bu (bif decide (600<p1) then
 some true
 else
 some (decide (600<(IntKind.i64.wrap ((p0.length:Int)-p1))))) λp14=>
 bif p14 then
  some (((⟨([]:List Int),([]:List Int)⟩:Word):Word),false)
 else
  bu (subS p0 0 p1) λx19=>
  bu (subS p0 p1 (p0.length:Int)) λx24=>
  bu (appS 8 ([]:List Int) x19) λx20=>
  bu (appS 8 ([]:List Int) x24) λx25=>
  some (((⟨x20,x25⟩:Word):Word),true)
def jd (p0:Sig) (p1:Machine) (p2:Rival) (s1:(List Int)×Int×Int×(List ((Int×Int)×Int))):Option ((Word×Bool)⊕(((List Int)×Int×Int×(List ((Int×Int)×Int)))⊕((List Int)×Int×Int×(List ((Int×Int)×Int))))):=
 bu (mget kwI2 s1.2.2.2 ((s1.2.1,s1.2.2.1):(Int×Int)) (0:Int)) λx37=>
 bif x37.2 then
  bu (fB s1.1 x37.1) λx43=>
  some (.inl (x43.1,x43.2))
 else
  bu (mset kwI2 s1.2.2.2 ((s1.2.1,s1.2.2.1):(Int×Int)) (s1.1.length:Int)) λy388=>
  bu (idx p2.In s1.2.2.1) λx54=>
  bu (idx p1.Out s1.2.1) λx60=>
  bu (idx x60 x54) λx63=>
  bu (cn p0) λx68=>
  bu (appS 8 s1.1 ([(IntKind.i64.wrap ((IntKind.i64.wrap (x63 * x68))+x54))]:List Int)) λx73=>
  bu (idx p1.Next s1.2.1) λx78=>
  bu (idx x78 x54) λx81=>
  bu (idx p2.Next s1.2.2.1) λx87=>
  bu (idx x87 x63) λx90=>
  some (.inr (.inr (x73,x81,x90,y388)))
def mv (p0:Sig) (p1:Machine) (p2:Rival):Option (Word×Bool):=
 bu (jv p0) λx16=>
 bu (bif (!x16) then
 some true
 else
 bu (jk p0 p1) λx21=>
 some (!x21)) λp23=>
 bu (bif p23 then
 some true
 else
 bu (iy p0 p2) λx27=>
 some (!x27)) λp29=>
 bif p29 then
  some (((⟨([]:List Int),([]:List Int)⟩:Word):Word),false)
 else
  bu (bI (jd p0 p1 p2) (2 ^ 64) ((([]:List Int):(List Int)),(0:Int),(0:Int),(([]:List ((Int×Int)×Int)):(List ((Int×Int)×Int))))) λq2=>
  aft (λr=>some r) (λs3=>
   none) q2
def fo (p0:Sig) (p1:Machine) (v6:Int) (s1:Unit):Option (Bool⊕((Unit)⊕(Unit))):=
 bu (idx p1.Next v6) λx37=>
 bu (gZ p0) λx41=>
 bu (bif ((x37.length:Int) !=x41) then
 some true
 else
 bu (idx p1.Out v6) λx47=>
 bu (idx p1.Next v6) λx53=>
 some ((x47.length:Int) !=(x53.length:Int))) λp57=>
 bu (bif p57 then
 some true
 else
 bu (idx p1.Next v6) λx62=>
 bu (eC x62 (p1.Next.length:Int)) λx65=>
 some (!x65)) λp67=>
 bu (bif p67 then
 some true
 else
 bu (idx p1.Out v6) λx72=>
 bu (cw p0.Out) λx76=>
 bu (eC x72 x76) λx77=>
 some (!x77)) λp79=>
 bif p79 then
  some (.inl (false:Bool))
 else
  some (.inr (.inr ()))
def je (p0:Sig) (p1:Machine):Option (Bool):=
 bu (gf p0) λx11=>
 bu (bif (!x11) then
 some true
 else
 bu (dd (p1.Next.length:Int) 1 48) λx15=>
 some (!x15)) λp17=>
 bu (bif p17 then
 some true
 else
 some ((p1.Out.length:Int) !=(p1.Next.length:Int))) λp26=>
 bif p26 then
  some (false:Bool)
 else
  bu (cntM (fo p0 p1) p1.Next.length 0 ()) λq2=>
  aft (λr=>some r) (λs3=>
   some (true:Bool)) q2
def gJ (p0:Sig) (p1:Rival) (v6:Int) (s1:Unit):Option (Bool⊕((Unit)⊕(Unit))):=
 bu (idx p1.Next v6) λx45=>
 bu (fE p0) λx49=>
 bu (bif ((x45.length:Int) !=x49) then
 some true
 else
 bu (idx p1.Next v6) λx55=>
 bu (eC x55 (p1.In.length:Int)) λx58=>
 some (!x58)) λp60=>
 bif p60 then
  some (.inl (false:Bool))
 else
  some (.inr (.inr ()))
def kQ (p0:Sig) (p1:Rival):Option (Bool):=
 bu (gf p0) λx11=>
 bu (bif (!x11) then
 some true
 else
 bu (dd (p1.In.length:Int) 1 256) λx15=>
 some (!x15)) λp17=>
 bu (bif p17 then
 some true
 else
 some ((p1.Next.length:Int) !=(p1.In.length:Int))) λp26=>
 bu (bif p26 then
 some true
 else
 bu (cH p0) λx31=>
 bu (eC p1.In x31) λx32=>
 some (!x32)) λp34=>
 bif p34 then
  some (false:Bool)
 else
  bu (cntM (gJ p0 p1) p1.Next.length 0 ()) λq2=>
  aft (λr=>some r) (λs3=>
   some (true:Bool)) q2
def ja (p0:Sig) (p1:Machine) (p2:Rival) (s1:(List (List Int))×(List Int)×Int×Int):Option ((Word×Bool)⊕(((List (List Int))×(List Int)×Int×Int)⊕((List (List Int))×(List Int)×Int×Int))):=
 bu (eB s1.1 s1.2.2.1 s1.2.2.2) λx32=>
 bif decide (x32<0) then
  bu (appS 24 s1.1 ([([s1.2.2.1,s1.2.2.2]:List Int)]:List (List Int))) λx39=>
  bu (idx p2.In s1.2.2.2) λx43=>
  bu (idx p1.Out s1.2.2.1) λx48=>
  bu (idx x48 x43) λx51=>
  bu (dQ p0 x43 x51) λx57=>
  bu (appS 8 s1.2.1 ([x57]:List Int)) λx59=>
  bu (idx p1.Next s1.2.2.1) λx63=>
  bu (idx x63 x43) λx66=>
  bu (idx p2.Next s1.2.2.2) λx71=>
  bu (idx x71 x51) λx74=>
  some (.inr (.inr (x39,x59,x66,x74)))
 else
  some (.inr (.inl (s1.1,s1.2.1,s1.2.2.1,s1.2.2.2)))
def mi (p0:Sig) (p1:Machine) (p2:Rival):Option (Word×Bool):=
 bu (je p0 p1) λx18=>
 bu (bif (!x18) then
 some true
 else
 bu (kQ p0 p2) λx23=>
 some (!x23)) λp25=>
 bif p25 then
  some (((⟨([]:List Int),([]:List Int)⟩:Word):Word),false)
 else
  bu (bI (ja p0 p1 p2) (2 ^ 64) ((([]:List (List Int)):(List (List Int))),(([]:List Int):(List Int)),(0:Int),(0:Int))) λq2=>
  aft (λr=>some r) (λs3=>
   bu (eB s3.1 s3.2.2.1 s3.2.2.2) λx79=>
   bu (subS s3.2.1 0 x79) λx82=>
   bu (subS s3.2.1 x79 (s3.2.1.length:Int)) λx86=>
   bu (cA x82) λx83=>
   bu (cA x86) λx87=>
   bu (bif decide (600<(((⟨x83,x87⟩:Word).Stem).length:Int)) then
   some true
   else
   some (decide (600<(((⟨x83,x87⟩:Word).Loop).length:Int)))) λp98=>
   bif p98 then
    some (((⟨([]:List Int),([]:List Int)⟩:Word):Word),false)
   else
    some (((⟨x83,x87⟩:Word):Word),true)) q2
def fK (p0:(List Int)) (p1:(List Int)) (v5:Int) (s1:Unit):Option (Bool⊕((Unit)⊕(Unit))):=
 bu (idx p0 v5) λx19=>
 bu (idx p1 v5) λx23=>
 bif (x19 !=x23) then
  some (.inl (false:Bool))
 else
  some (.inr (.inr ()))
def iI (p0:(List Int)) (p1:(List Int)):Option (Bool):=
 bif ((p0.length:Int) !=(p1.length:Int)) then
  some (false:Bool)
 else
  bu (cntM (fK p0 p1) p0.length 0 ()) λq2=>
  aft (λr=>some r) (λs3=>
   some (true:Bool)) q2
def lC (p0:Sig) (p1:Int):Option (Int):=
 bu (cB p0) λx7=>
 bu (dd p1 0 (IntKind.i64.wrap (x7-1))) λx9=>
 bif (!x9) then
  some ((-1):Int)
 else
  bu (cw p0.In) λx14=>
  bu (nz x14) λ_z15=>
  some ((IntKind.i64.wrap (Int.tdiv p1 x14)):Int)
def j5 (p0:Word) (p1:Int):Option (Bool):=
 bu (bif decide ((p0.Stem.length:Int)<=600) then
 some (decide (1<=(p0.Loop.length:Int)))
 else
 some false) λp14=>
 bu (bif p14 then
 some (decide ((p0.Loop.length:Int)<=600))
 else
 some false) λp20=>
 bu (bif p20 then
 bu (cM p0.Stem p1) λx25=>
 some x25
 else
 some false) λp26=>
 bu (bif p26 then
 bu (cM p0.Loop p1) λx31=>
 some x31
 else
 some false) λp32=>
 some (p32:Bool)
def dW (p0:(List Int)) (c1:Sig) (c2:Rival) (v10:Int) (s1:(List Int)×Int):Option (((List Int)×Int)⊕(((List Int)×Int)⊕((List Int)×Int))):=
 bu (idx p0 v10) λx12=>
 bu (idx c2.In s1.2) λx22=>
 bu (cn c1) λx17=>
 bu (appS 8 s1.1 ([(IntKind.i64.wrap ((IntKind.i64.wrap (x12 * x17))+x22))]:List Int)) λx26=>
 bu (idx c2.Next s1.2) λx30=>
 bu (idx x30 x12) λx33=>
 some (.inr (.inr (x26,x33)))
def eQ (p0:(List Int)) (c0:(List Int)) (c1:Sig) (c2:Rival) (c3:Int):Option ((List Int)×Int):=
 bu (cntM (dW p0 c1 c2) p0.length 0 (c0,c3)) λq2=>
 aft (λr=>some r) (λs3=>
  some (s3.1,s3.2)) q2
def cP (p0:(List Int)) (p1:Int) (v8:Int) (s1:Unit):Option (Int⊕((Unit)⊕(Unit))):=
 bu (idx p0 v8) λx14=>
 bif (p1==x14) then
  some (.inl (v8:Int))
 else
  some (.inr (.inr ()))
def ch (p0:(List Int)) (p1:Int):Option (Int):=
 bu (cntM (cP p0 p1) p0.length 0 ()) λq2=>
 aft (λr=>some r) (λs3=>
  some ((-1):Int)) q2
def bJ (p0:(List Int)) (p1:Int):Option (Bool):=
 bu (ch p0 p1) λx7=>
 some (decide (0<=x7):Bool)
def fp (p0:Sig) (p1:Rival) (p2:Word) (s1:(List Int)×(List Int)×Int):Option ((Word×Bool)⊕(((List Int)×(List Int)×Int)⊕((List Int)×(List Int)×Int))):=
 bu (bJ s1.1 s1.2.2) λx39=>
 bif (!x39) then
  bu (appS 8 s1.1 ([s1.2.2]:List Int)) λx44=>
  bu (eQ p2.Loop s1.2.1 p0 p1 s1.2.2) λx48=>
  some (.inr (.inr (x44,x48.1,x48.2)))
 else
  some (.inr (.inl (s1.1,s1.2.1,s1.2.2)))
def iY (p0:Sig) (p1:Rival) (p2:Word):Option (Word×Bool):=
 bu (jv p0) λx13=>
 bu (bif (!x13) then
 some true
 else
 bu (iy p0 p1) λx18=>
 some (!x18)) λp20=>
 bu (bif p20 then
 some true
 else
 bu (nn p0.Out) λ_z25=>
 bu (j5 p2 (IntKind.i64.wrap (1 * 2 ^ (min (yn p0.Out) (IntKind.bits IntKind.i64))))) λx26=>
 some (!x26)) λp28=>
 bif p28 then
  some (((⟨([]:List Int),([]:List Int)⟩:Word):Word),false)
 else
  bu (eQ p2.Stem ([]:List Int) p0 p1 0) λx35=>
  bu (bI (fp p0 p1 p2) (2 ^ 64) ((([]:List Int):(List Int)),x35.1,x35.2)) λq2=>
  aft (λr=>some r) (λs3=>
   bu (ch s3.1 s3.2.2) λx55=>
   bu (fB s3.2.1 (IntKind.i64.wrap ((p2.Stem.length:Int)+(IntKind.i64.wrap (x55 * (p2.Loop.length:Int)))))) λx61=>
   some (x61.1,x61.2)) q2
def cO (p0:(List Int)) (p1:(List Int)) (v13:Int) (s1:Unit):Option (Bool⊕((Unit)⊕(Unit))):=
 bu (idx p0 v13) λx18=>
 bu (idx p1 v13) λx22=>
 bif (x18 !=x22) then
  some (.inl (false:Bool))
 else
  some (.inr (.inr ()))
def bX (p0:(List Int)) (p1:(List Int)):Option (Bool):=
 bif ((p0.length:Int) !=(p1.length:Int)) then
  some (false:Bool)
 else
  bu (cntM (cO p0 p1) p0.length 0 ()) λq2=>
  aft (λr=>some r) (λs3=>
   some (true:Bool)) q2
def fg  (s1:(List Int)×Int):Option (Word⊕(((List Int)×Int)⊕((List Int)×Int))):=
 bif decide (s1.2<=(s1.1.length:Int)) then
  bu (nz s1.2) λ_z19=>
  bu (bif ((Int.tmod (s1.1.length:Int) s1.2)==0) then
  bu (subS s1.1 s1.2 (s1.1.length:Int)) λx24=>
  bu (subS s1.1 0 (IntKind.i64.wrap ((s1.1.length:Int)-s1.2))) λx30=>
  bu (bX x24 x30) λx31=>
  some x31
  else
  some false) λp32=>
  bif p32 then
   bu (subS s1.1 0 s1.2) λx35=>
   some (.inr (.inl (x35,s1.2)))
  else
   some (.inr (.inr (s1.1,((IntKind.i64.wrap (s1.2+1)):Int))))
 else
  some (.inr (.inl (s1.1,s1.2)))
def fq  (s4:(List Int)×(List Int)):Option (Word⊕(((List Int)×(List Int))⊕((List Int)×(List Int)))):=
 bu (bif decide (0<(s4.2.length:Int)) then
 bu (idx s4.2 (IntKind.i64.wrap ((s4.2.length:Int)-1))) λx48=>
 bu (idx s4.1 (IntKind.i64.wrap ((s4.1.length:Int)-1))) λx54=>
 some (x48==x54)
 else
 some false) λp57=>
 bif p57 then
  bu (subS s4.2 0 (IntKind.i64.wrap ((s4.2.length:Int)-1))) λx62=>
  bu (idx s4.1 (IntKind.i64.wrap ((s4.1.length:Int)-1))) λx67=>
  bu (subS s4.1 0 (IntKind.i64.wrap ((s4.1.length:Int)-1))) λx74=>
  bu (appS 8 ([x67]:List Int) x74) λx75=>
  some (.inr (.inr (x75,x62)))
 else
  some (.inr (.inl (s4.1,s4.2)))
def gn (p0:Word):Option (Word):=
 bu (appS 8 ([]:List Int) p0.Loop) λx9=>
 bu (bI fg (2 ^ 64) (x9,(1:Int))) λq2=>
 aft (λr=>some r) (λs3=>
  bu (appS 8 ([]:List Int) p0.Stem) λx39=>
  bu (bI fq (2 ^ 64) (s3.1,x39)) λq5=>
  aft (λr=>some r) (λs6=>
   some ((⟨s6.2,s6.1⟩:Word):Word)) q5) q2
def jL (p0:Word) (p1:Word):Option (Bool):=
 bu (j5 p0 16) λx8=>
 bu (bif (!x8) then
 some true
 else
 bu (j5 p1 16) λx12=>
 some (!x12)) λp14=>
 bif p14 then
  some (false:Bool)
 else
  bu (gn p0) λx16=>
  bu (gn p1) λx18=>
  bu (bX x16.Stem x18.Stem) λx23=>
  bu (bif x23 then
  bu (bX x16.Loop x18.Loop) λx29=>
  some x29
  else
  some false) λp30=>
  some (p30:Bool)
def dV (p1:Rival) (p2:(List Int)) (v40:Int) (s1:Int×(List Int)):Option ((List Int)⊕((Int×(List Int))⊕(Int×(List Int)))):=
 bu (idx p2 v40) λx42=>
 bu (idx p1.Next s1.1) λx47=>
 bu (idx x47 x42) λx50=>
 bu (idx p1.In x50) λx56=>
 bu (appS 8 s1.2 ([x56]:List Int)) λx59=>
 some (.inr (.inr (x50,x59)))
def ji (p0:Sig) (p1:Rival) (p2:(List Int)):Option ((List Int)):=
 bu (jv p0) λx12=>
 bu (bif (!x12) then
 some true
 else
 bu (iy p0 p1) λx17=>
 some (!x17)) λp19=>
 bu (bif p19 then
 some true
 else
 some (decide (600<(p2.length:Int)))) λp24=>
 bu (bif p24 then
 some true
 else
 bu (nn p0.Out) λ_z29=>
 bu (cM p2 (IntKind.i64.wrap (1 * 2 ^ (min (yn p0.Out) (IntKind.bits IntKind.i64))))) λx30=>
 some (!x30)) λp32=>
 bif p32 then
  some (([]:List Int):(List Int))
 else
  bu (idx p1.In 0) λx35=>
  bu (cntM (dV p1 p2) p2.length 0 ((0:Int),(([x35]:List Int):(List Int)))) λq2=>
  aft (λr=>some r) (λs3=>
   some (s3.2:(List Int))) q2
def gP (x19:Sig×Machine×Rival) (x27:Word×Bool) (v11:Int) (s1:(List Int)):Option (Bool⊕(((List Int))⊕((List Int)))):=
 bu (idx x27.1.Stem v11) λx72=>
 bu (lC x19.1 x72) λx74=>
 bu (appS 8 s1 ([x74]:List Int)) λx76=>
 some (.inr (.inr (x76:(List Int))))
def gE (x19:Sig×Machine×Rival) (x27:Word×Bool) (v12:Int) (s4:(List Int)):Option (Bool⊕(((List Int))⊕((List Int)))):=
 bu (idx x27.1.Loop v12) λx91=>
 bu (lC x19.1 x91) λx93=>
 bu (appS 8 s4 ([x93]:List Int)) λx95=>
 some (.inr (.inr (x95:(List Int))))
def mK (p0:(List Int)):Option (Bool):=
 bu (ut p0) λx16=>
 bif x16 then
  some (true:Bool)
 else
  bu (g9 p0) λx19=>
  bu (mv x19.1 x19.2.1 x19.2.2) λx27=>
  bu (mi x19.1 x19.2.1 x19.2.2) λx34=>
  bu (bif (x27.2 !=x34.2) then
  some true
  else
  bu (iI x27.1.Stem x34.1.Stem) λx45=>
  some (!x45)) λp47=>
  bu (bif p47 then
  some true
  else
  bu (iI x27.1.Loop x34.1.Loop) λx53=>
  some (!x53)) λp55=>
  bif p55 then
   some (false:Bool)
  else
   bif (!x27.2) then
    some (true:Bool)
   else
    bu (cntM (gP x19 x27) x27.1.Stem.length 0 (([]:List Int):(List Int))) λq2=>
    aft (λr=>some r) (λs3=>
     bu (cntM (gE x19 x27) x27.1.Loop.length 0 (([]:List Int):(List Int))) λq5=>
     aft (λr=>some r) (λs6=>
      bu (iY x19.1 x19.2.2 (⟨s3,s6⟩:Word)) λx101=>
      bu (bif x101.2 then
      bu (jL x101.1 x27.1) λx108=>
      some x108
      else
      some false) λp109=>
      bu (bif p109 then
      bu (ji x19.1 x19.2.2 s6) λx115=>
      some ((x115.length:Int)==(IntKind.i64.wrap ((s6.length:Int)+1)))
      else
      some false) λp122=>
      some (p122:Bool)) q5) q2
def dI (p0:Sig):Option (Int):=
 bu (nn (IntKind.i64.wrap (p0.In+p0.Out))) λ_z8=>
 some ((IntKind.i64.wrap (1 * 2 ^ (min (yn (IntKind.i64.wrap (p0.In+p0.Out))) (IntKind.bits IntKind.i64)))):Int)
def nI (p0:(List Int)) (p1:Int) (v9:Int) (s1:Unit):Option (Bool⊕((Unit)⊕(Unit))):=
 bu (idx p0 v9) λx12=>
 bu (bif decide (x12<0) then
 some true
 else
 some (decide (p1<=x12))) λp20=>
 bu (bif p20 then
 some true
 else
 bu (bif decide (0<v9) then
 bu (idx p0 (IntKind.i64.wrap (v9-1))) λx29=>
 some (decide (x12<=x29))
 else
 some false) λp32=>
 some p32) λp33=>
 bif p33 then
  some (.inl (false:Bool))
 else
  some (.inr (.inr ()))
def lj (p0:(List Int)) (p1:Int):Option (Bool):=
 bu (cntM (nI p0 p1) p0.length 0 ()) λq2=>
 aft (λr=>some r) (λs3=>
  some (true:Bool)) q2
def oV (p0:Int):Option (Bool):=
 bu (bif (p0==2) then
 some true
 else
 some (p0==3)) λp8=>
 bu (bif p8 then
 some true
 else
 some (p0==7)) λp12=>
 some (p12:Bool)
def nD (p0:Sig) (p1:Clause):Option (Bool):=
 bu (bif decide (p1.Kind<1) then
 some true
 else
 some (decide (7<p1.Kind))) λp12=>
 bu (bif p12 then
 some true
 else
 bu (dI p0) λx17=>
 bu (lj p1.A x17) λx18=>
 some (!x18)) λp20=>
 bu (bif p20 then
 some true
 else
 bu (dI p0) λx25=>
 bu (lj p1.B x25) λx26=>
 some (!x26)) λp28=>
 bif p28 then
  some (false:Bool)
 else
  bu (oV p1.Kind) λx31=>
  bu (bif x31 then
  some true
  else
  some ((p1.B.length:Int)==0)) λp37=>
  some (p37:Bool)
def gz (p0:Clause) (c0:Sig):Option (Bool):=
 bu (nD c0 p0) λx6=>
 some ((!x6):Bool)
def bV (p0:(List Clause)) (c1_0:Sig) (v8:Int) (s1:Unit):Option (Int⊕((Unit)⊕(Unit))):=
 bu (idx p0 v8) λx14=>
 bu (gz x14 c1_0) λx16=>
 bif x16 then
  some (.inl (v8:Int))
 else
  some (.inr (.inr ()))
def bZ (p0:(List Clause)) (c1_0:Sig):Option (Int):=
 bu (cntM (bV p0 c1_0) p0.length 0 ()) λq2=>
 aft (λr=>some r) (λs3=>
  some ((-1):Int)) q2
def bW (p0:(List Clause)) (c1_0:Sig):Option (Bool):=
 bu (bZ p0 c1_0) λx7=>
 some (decide (0<=x7):Bool)
def lg (p0:Sig) (p1:(List Clause)):Option (Bool):=
 bu (bif decide ((p1.length:Int)<=3) then
 bu (bW p1 p0) λx11=>
 some (!x11)
 else
 some false) λp13=>
 some (p13:Bool)
def ko (p0:Int) (p1:Int) (p2:Bool) (p3:Bool):Option (Int):=
 bu (bif p2 then
  some (1:Int)
 else
  some (0:Int)) λq1=>
 bu (bif p3 then
  some (true,(1:Int))
 else
  some (false,(0:Int))) λq2=>
 bif (p0==1) then
  some ((if p1<(IntKind.i64.wrap (1-q1)) then(IntKind.i64.wrap (1-q1)) else p1):Int)
 else
  bif (p0==2) then
   bu (bif (p1==2) then
   some true
   else
   bu (bif (p1==1) then
   some (!q2.1)
   else
   some false) λp30=>
   some p30) λp31=>
   bif p31 then
    some (2:Int)
   else
    some (q1:Int)
  else
   bif (p0==3) then
    bif q2.1 then
     some (0:Int)
    else
     some ((if p1<q1 then q1 else p1):Int)
   else
    bif (p0==4) then
     some (q1:Int)
    else
     bif (p0==5) then
      some ((IntKind.i64.wrap (1-q1)):Int)
     else
      bif (p0==6) then
       some ((if p1<q1 then q1 else p1):Int)
      else
       some ((IntKind.i64.wrap ((IntKind.i64.wrap (2 * q1))+q2.2)):Int)
def gG (p1:Clause) (v44:Int) (v50:Int) (s10:(List Int)):Option (Det⊕(((List Int))⊕((List Int)))):=
 bu (bJ p1.A v50) λx60=>
 bu (bJ p1.B v50) λx64=>
 bu (ko p1.Kind v44 x60 x64) λx65=>
 bu (appS 8 s10 ([x65]:List Int)) λx67=>
 some (.inr (.inr (x67:(List Int))))
def gT (p0:Sig) (p1:Clause) (v44:Int) (s7:(List (List Int))):Option (Det⊕(((List (List Int)))⊕((List (List Int))))):=
 bu (dI p0) λx49=>
 bu (rng x49) λ_=>
 bu (cntM (gG p1 v44) (yn (x49-0)) 0 (([]:List Int):(List Int))) λq11=>
 aft (λr=>some (.inl r)) (λs12=>
  bu (appS 24 s7 ([s12]:List (List Int))) λx73=>
  some (.inr (.inr (x73:(List (List Int)))))) q11
def lZ (p0:Sig) (p1:Clause):Option (Det):=
 bu (bif (p1.Kind==1) then
  some (true:Bool)
 else
  some ((p1.Kind==5):Bool)) λq1=>
 bu (bif q1 then
  some ((2:Int),(([1]:List Int):(List Int)),(([]:List Int):(List Int)))
 else
  bu (bif (p1.Kind==2) then
   some ((3:Int),(([2]:List Int):(List Int)),(([]:List Int):(List Int)))
  else
   bu (bif (p1.Kind==3) then
    some ((2:Int),(([1]:List Int):(List Int)),(([0]:List Int):(List Int)))
   else
    bu (bif (p1.Kind==4) then
     some ((2:Int),(([0,1]:List Int):(List Int)),(([1]:List Int):(List Int)))
    else
     bu (bif (p1.Kind==6) then
      some ((2:Int),(([0]:List Int):(List Int)),(([]:List Int):(List Int)))
     else
      some ((4:Int),(([2,3]:List Int):(List Int)),(([1,3]:List Int):(List Int)))) λq6=>
     some (q6.1,q6.2.1,q6.2.2)) λq5=>
    some (q5.1,q5.2.1,q5.2.2)) λq4=>
   some (q4.1,q4.2.1,q4.2.2)) λq3=>
  some (q3.1,q3.2.1,q3.2.2)) λq2=>
 bu (rng q2.1) λ_=>
 bu (cntM (gT p0 p1) (yn (q2.1-0)) 0 (([]:List (List Int)):(List (List Int)))) λq8=>
 aft (λr=>some r) (λs9=>
  some ((⟨s9,([(⟨q2.2.1,q2.2.2⟩:Pair)]:List Pair)⟩:Det):Det)) q8
def cV (p0:(List (Int×Int))) (p1:(Int×Int)) (v8:Int) (s1:Unit):Option (Int⊕((Unit)⊕(Unit))):=
 bu (idx p0 v8) λx14=>
 bif ((p1.1==x14.1)&&(p1.2==x14.2)) then
  some (.inl (v8:Int))
 else
  some (.inr (.inr ()))
def de (p0:(List (Int×Int))) (p1:(Int×Int)):Option (Int):=
 bu (cntM (cV p0 p1) p0.length 0 ()) λq2=>
 aft (λr=>some r) (λs3=>
  some ((-1):Int)) q2
def gQ (p1:Det) (s1:(List (Int×Int))×Int×(List (List Int))) (x47:(List Int)) (v50:Int) (s4:(List (Int×Int))×(List Int)):Option ((Det×Bool)⊕(((List (Int×Int))×(List Int))⊕((List (Int×Int))×(List Int)))):=
 bu (idx x47 v50) λx53=>
 bu (idx s4.1 s1.2.1) λx60=>
 bu (idx p1.Next x60.2) λx63=>
 bu (idx x63 v50) λx66=>
 bu (de s4.1 (x53,x66)) λx71=>
 bu (bif decide (x71<0) then
  bu (appS 16 s4.1 ([(x53,x66)]:List (Int×Int))) λx79=>
  some (x79,((s4.1.length:Int):Int))
 else
  some (s4.1,x71)) λq7=>
 bu (appS 8 s4.2 ([q7.2]:List Int)) λx83=>
 some (.inr (.inr (q7.1,x83)))
def jX (p0:Det) (p1:Det) (s1:(List (Int×Int))×Int×(List (List Int))):Option ((Det×Bool)⊕(((List (Int×Int))×Int×(List (List Int)))⊕((List (Int×Int))×Int×(List (List Int))))):=
 bif decide (s1.2.1<(s1.1.length:Int)) then
  bu (idx s1.1 s1.2.1) λx44=>
  bu (idx p0.Next x44.1) λx47=>
  bu (cntM (gQ p1 s1 x47) x47.length 0 (s1.1,(([]:List Int):(List Int)))) λq5=>
  aft (λr=>some (.inl r)) (λs6=>
   bif decide (48<(s6.1.length:Int)) then
    some (.inl (((⟨([]:List (List Int)),([]:List Pair)⟩:Det):Det),false))
   else
    bu (appS 24 s1.2.2 ([s6.2]:List (List Int))) λx93=>
    some (.inr (.inr (s6.1,((IntKind.i64.wrap (s1.2.1+1)):Int),x93)))) q5
 else
  some (.inr (.inl (s1.1,s1.2.1,s1.2.2)))
def jK (s3:(List (Int×Int))×Int×(List (List Int))) (v99:Int) (x109:Pair) (v114:Int) (s14:(List Int)×(List Int)):Option ((Det×Bool)⊕(((List Int)×(List Int))⊕((List Int)×(List Int)))):=
 bu (idx s3.1 v114) λx117=>
 bu (idx ([x117.1,x117.2]:List Int) v99) λx122=>
 bu (bJ x109.Ask x122) λx124=>
 bu (bif x124 then
  bu (appS 8 s14.1 ([v114]:List Int)) λx129=>
  some (x129:(List Int))
 else
  some (s14.1:(List Int))) λq17=>
 bu (idx ([x117.1,x117.2]:List Int) v99) λx134=>
 bu (bJ x109.Give x134) λx136=>
 bu (bif x136 then
  bu (appS 8 s14.2 ([v114]:List Int)) λx141=>
  some (x141:(List Int))
 else
  some (s14.2:(List Int))) λq18=>
 some (.inr (.inr (q17,q18)))
def eb (s3:(List (Int×Int))×Int×(List (List Int))) (v99:Int) (x102:Det) (v107:Int) (s11:(List Pair)):Option ((Det×Bool)⊕(((List Pair))⊕((List Pair)))):=
 bu (idx x102.Pairs v107) λx109=>
 bu (cntM (jK s3 v99 x109) s3.1.length 0 ((([]:List Int):(List Int)),(([]:List Int):(List Int)))) λq15=>
 aft (λr=>some (.inl r)) (λs16=>
  bu (appS 48 s11 ([(⟨s16.1,s16.2⟩:Pair)]:List Pair)) λx148=>
  some (.inr (.inr (x148:(List Pair))))) q15
def da (p0:Det) (p1:Det) (s3:(List (Int×Int))×Int×(List (List Int))) (v99:Int) (s8:(List Pair)):Option ((Det×Bool)⊕(((List Pair))⊕((List Pair)))):=
 bu (idx ([p0,p1]:List Det) v99) λx102=>
 bu (cntM (eb s3 v99 x102) x102.Pairs.length 0 (s8:(List Pair))) λq12=>
 aft (λr=>some (.inl r)) (λs13=>
  some (.inr (.inr (s13:(List Pair))))) q12
def ke (p0:Det) (p1:Det):Option (Det×Bool):=
 bif decide (4<(IntKind.i64.wrap ((p0.Pairs.length:Int)+(p1.Pairs.length:Int)))) then
  some (((⟨([]:List (List Int)),([]:List Pair)⟩:Det):Det),false)
 else
  bu (bI (jX p0 p1) (2 ^ 64) ((([(0,0)]:List (Int×Int)):(List (Int×Int))),(0:Int),(([]:List (List Int)):(List (List Int))))) λq2=>
  aft (λr=>some r) (λs3=>
   bu (cntM (da p0 p1 s3) ([p0,p1]:List Det).length 0 (([]:List Pair):(List Pair))) λq9=>
   aft (λr=>some r) (λs10=>
    some (((⟨s3.2.2,s10⟩:Det):Det),true)) q9) q2
def gH (p0:Sig) (p1:(List Clause)) (v28:Int) (s1:(List (List Int))×(List Pair)):Option ((Det×Bool)⊕(((List (List Int))×(List Pair))⊕((List (List Int))×(List Pair)))):=
 bu (idx p1 v28) λx30=>
 bu (lZ p0 x30) λx36=>
 bu (ke (⟨s1.1,s1.2⟩:Det) x36) λx37=>
 bif (!x37.2) then
  some (.inl (((⟨([]:List (List Int)),([]:List Pair)⟩:Det):Det),false))
 else
  some (.inr (.inr (x37.1.Next,x37.1.Pairs)))
def eW (p0:Sig) (p1:(List Clause)):Option (Det×Bool):=
 bu (jv p0) λx12=>
 bu (bif (!x12) then
 some true
 else
 bu (lg p0 p1) λx17=>
 some (!x17)) λp19=>
 bif p19 then
  some (((⟨([]:List (List Int)),([]:List Pair)⟩:Det):Det),false)
 else
  bu (dI p0) λx22=>
  bu (mkS 8 x22 (0:Int)) λx23=>
  bu (cntM (gH p0 p1) p1.length 0 ((([x23]:List (List Int)):(List (List Int))),(([]:List Pair):(List Pair)))) λq2=>
  aft (λr=>some r) (λs3=>
   some (((⟨s3.1,s3.2⟩:Det):Det),true)) q2
def cU (p0:(List Int)):Option (List Int):=
 if 0<p0.length/\p0.length<4611686018427387904 then some (p0.mergeSort λx y=>decide (x<=y)) else if p0.length=0 then some p0 else none
def eD (p0:(List Int)):Option (List Int):=
 if 0<p0.length/\p0.length<4611686018427387904 then some (Go.Lib.compact p0) else none
def pP (p0:Pair):Option (Pair):=
 bu (appS 8 ([]:List Int) p0.Ask) λx6=>
 bu (appS 8 ([]:List Int) p0.Give) λx10=>
 some ((⟨x6,x10⟩:Pair):Pair)
def gx (p1:Det) (x24:Int) (v26:Int) (v31:Int) (s4:(List Int)):Option ((Arena×(List Pair))⊕(((List Int))⊕((List Int)))):=
 bu (appS 8 s4 ([(IntKind.i64.wrap ((IntKind.i64.wrap ((p1.Next.length:Int)+(IntKind.i64.wrap (v26 * x24))))+v31))]:List Int)) λx43=>
 some (.inr (.inr (x43:(List Int))))
def ic (p1:Det) (x24:Int) (v26:Int) (s1:(List Int)×(List (List Int))):Option ((Arena×(List Pair))⊕(((List Int)×(List (List Int)))⊕((List Int)×(List (List Int))))):=
 bu (rng x24) λ_=>
 bu (cntM (gx p1 x24 v26) (yn (x24-0)) 0 (([]:List Int):(List Int))) λq5=>
 aft (λr=>some (.inl r)) (λs6=>
  bu (appS 8 s1.1 ([1]:List Int)) λx48=>
  bu (appS 24 s1.2 ([s6]:List (List Int))) λx54=>
  some (.inr (.inr (x48,x54)))) q5
def hZ (p1:Det) (x24:Int) (v58:Int) (v62:Int) (v69:Int) (s13:(List Int)):Option ((Arena×(List Pair))⊕(((List Int))⊕((List Int)))):=
 bu (idx p1.Next v58) λx76=>
 bu (idx x76 (IntKind.i64.wrap ((IntKind.i64.wrap (v69 * x24))+v62))) λx83=>
 bu (appS 8 s13 ([x83]:List Int)) λx86=>
 some (.inr (.inr (x86:(List Int))))
def ib (p0:Sig) (p1:Det) (x24:Int) (v58:Int) (v62:Int) (s10:(List Int)×(List (List Int))):Option ((Arena×(List Pair))⊕(((List Int)×(List (List Int)))⊕((List Int)×(List (List Int))))):=
 bu (nn p0.Out) λ_z68=>
 bu (rng (IntKind.i64.wrap (1 * 2 ^ (min (yn p0.Out) (IntKind.bits IntKind.i64))))) λ_=>
 bu (cntM (hZ p1 x24 v58 v62) (yn ((IntKind.i64.wrap (1 * 2 ^ (min (yn p0.Out) (IntKind.bits IntKind.i64))))-0)) 0 (([]:List Int):(List Int))) λq14=>
 aft (λr=>some (.inl r)) (λs15=>
  bu (cU s15) λx89=>
  bu (appS 8 s10.1 ([0]:List Int)) λx93=>
  bu (eD x89) λx98=>
  bu (appS 24 s10.2 ([x98]:List (List Int))) λx100=>
  some (.inr (.inr (x93,x100)))) q14
def g8 (p0:Sig) (p1:Det) (x24:Int) (v58:Int) (s7:(List Int)×(List (List Int))):Option ((Arena×(List Pair))⊕(((List Int)×(List (List Int)))⊕((List Int)×(List (List Int))))):=
 bu (rng x24) λ_=>
 bu (cntM (ib p0 p1 x24 v58) (yn (x24-0)) 0 (s7.1,s7.2)) λq11=>
 aft (λr=>some (.inl r)) (λs12=>
  some (.inr (.inr (s12.1,s12.2)))) q11
def gc (p1:Det) (v108:Int) (s16:(List Pair)):Option ((Arena×(List Pair))⊕(((List Pair))⊕((List Pair)))):=
 bu (idx p1.Pairs v108) λx110=>
 bu (pP x110) λx114=>
 bu (appS 48 s16 ([x114]:List Pair)) λx116=>
 some (.inr (.inr (x116:(List Pair))))
def gu (p0:Sig) (p1:Det):Option (Arena×(List Pair)):=
 bu (cn p0) λx24=>
 bu (cntM (ic p1 x24) p1.Next.length 0 ((([]:List Int):(List Int)),(([]:List (List Int)):(List (List Int))))) λq2=>
 aft (λr=>some r) (λs3=>
  bu (cntM (g8 p0 p1 x24) p1.Next.length 0 (s3.1,s3.2)) λq8=>
  aft (λr=>some r) (λs9=>
   bu (cntM (gc p1) p1.Pairs.length 0 (([]:List Pair):(List Pair))) λq17=>
   aft (λr=>some r) (λs18=>
    some (((⟨s9.1,s9.2⟩:Arena):Arena),s18)) q17) q8) q2
def jq (p0:(List Pair)) (p1:(List Int)) (p2:Int) (v15:Int) (s1:(List Int)×(List Int)):Option ((List Int)⊕(((List Int)×(List Int))⊕((List Int)×(List Int)))):=
 bu (idx p1 v15) λx17=>
 bu (idx p0 x17) λx21=>
 bu (bJ x21.Give p2) λx25=>
 bu (bif x25 then
  bu (appS 8 s1.1 ([x17]:List Int)) λx29=>
  some (x29,s1.2)
 else
  bu (appS 8 s1.2 ([x17]:List Int)) λx33=>
  some (s1.1,x33)) λq4=>
 some (.inr (.inr (q4.1,q4.2)))
def lm (p0:(List Pair)) (p1:(List Int)) (p2:Int):Option ((List Int)):=
 bu (cntM (jq p0 p1 p2) p1.length 0 ((([]:List Int):(List Int)),(([]:List Int):(List Int)))) λq2=>
 aft (λr=>some r) (λs3=>
  bu (appS 8 s3.1 s3.2) λx37=>
  some (x37:(List Int))) q2
def lK (p0:Place) (c0:(List Pair)):Option ((List Int)):=
 bu (lm c0 p0.Record p0.At) λx9=>
 some (x9:(List Int))
def my (p0:Place) (c0:Int) (c1:(List Int)):Option (Bool):=
 bu (bif (p0.At==c0) then
 bu (bX p0.Record c1) λx13=>
 some x13
 else
 some false) λp14=>
 some (p14:Bool)
def cg (p0:(List Place)) (c1_0:Int) (c1_1:(List Int)) (v8:Int) (s1:Unit):Option (Int⊕((Unit)⊕(Unit))):=
 bu (idx p0 v8) λx14=>
 bu (my x14 c1_0 c1_1) λx16=>
 bif x16 then
  some (.inl (v8:Int))
 else
  some (.inr (.inr ()))
def cj (p0:(List Place)) (c1_0:Int) (c1_1:(List Int)):Option (Int):=
 bu (cntM (cg p0 c1_0 c1_1) p0.length 0 ()) λq2=>
 aft (λr=>some r) (λs3=>
  some ((-1):Int)) q2
def oG (p0:(List Place)) (p1:Int) (p2:(List Int)):Option (Int):=
 bu (cj p0 p1 p2) λx9=>
 some (x9:Int)
def js (p0:(List Pair)) (p1:(List Int)) (p2:Int) (v13:Int) (s1:Int×Int):Option (Int⊕((Int×Int)⊕(Int×Int))):=
 bu (idx p1 v13) λx16=>
 bu (idx p0 x16) λx20=>
 bu (bJ x20.Ask p2) λx24=>
 bu (bif x24 then
  some (v13:Int)
 else
  some (s1.1:Int)) λq4=>
 bu (idx p0 x16) λx28=>
 bu (bJ x28.Give p2) λx32=>
 bu (bif x32 then
  some (v13:Int)
 else
  some (s1.2:Int)) λq5=>
 some (.inr (.inr (q4,q5)))
def la (p0:(List Pair)) (p1:(List Int)) (p2:Int):Option (Int):=
 bu (cntM (js p0 p1 p2) p1.length 0 (((-1):Int),((-1):Int))) λq2=>
 aft (λr=>some r) (λs3=>
  bu (bif decide (s3.1<0) then
  some (decide (s3.2<0))
  else
  some false) λp41=>
  bif p41 then
   some (0:Int)
  else
   bif decide (s3.2<s3.1) then
    some ((IntKind.i64.wrap ((IntKind.i64.wrap (2 * s3.1))+1)):Int)
   else
    some ((IntKind.i64.wrap ((IntKind.i64.wrap (2 * s3.2))+2)):Int)) q2
def kV (p0:Place) (c0:(List Pair)):Option (Int):=
 bu (la c0 p0.Record p0.At) λx9=>
 some (x9:Int)
def og (p0:Parity) (p1:Int) (p2:Int) (p3:(List Int)):Option (Parity):=
 bu (appS 8 p0.Arena.Owner ([p1]:List Int)) λx14=>
 bu (appS 24 p0.Arena.Next ([p3]:List (List Int))) λx22=>
 bu (appS 8 p0.Prio ([p2]:List Int)) λx29=>
 some ((⟨(⟨x14,x22⟩:Arena),x29⟩:Parity):Parity)
def bT (x35:(List Int)) (x41:(List Int)) (v44:Int) (s4:(List Place)×(List Int)):Option ((Parity×(List Place)×Bool)⊕(((List Place)×(List Int))⊕((List Place)×(List Int)))):=
 bu (idx x41 v44) λx46=>
 bu (oG s4.1 x46 x35) λx51=>
 bu (bif decide (x51<0) then
  bu (appS 8 ([]:List Int) x35) λx60=>
  bu (appS 32 s4.1 ([(⟨x46,x60⟩:Place)]:List Place)) λx63=>
  some (x63,((s4.1.length:Int):Int))
 else
  some (s4.1,x51)) λq7=>
 bu (appS 8 s4.2 ([q7.2]:List Int)) λx67=>
 some (.inr (.inr (q7.1,x67)))
def bO (p0:Arena) (c2_0:(List Pair)) (s1:(List Place)×Int×(List Int)×(List (List Int))×(List Int)):Option ((Parity×(List Place)×Bool)⊕(((List Place)×Int×(List Int)×(List (List Int))×(List Int))⊕((List Place)×Int×(List Int)×(List (List Int))×(List Int)))):=
 bif decide (s1.2.1<(s1.1.length:Int)) then
  bu (idx s1.1 s1.2.1) λx31=>
  bu (lK x31 c2_0) λx35=>
  bu (idx p0.Next x31.At) λx41=>
  bu (cntM (bT x35 x41) x41.length 0 (s1.1,(([]:List Int):(List Int)))) λq5=>
  aft (λr=>some (.inl r)) (λs6=>
   bif decide (256<(s6.1.length:Int)) then
    some (.inl (((⟨(⟨([]:List Int),([]:List (List Int))⟩:Arena),([]:List Int)⟩:Parity):Parity),(([]:List Place):(List Place)),false))
   else
    bu (cU s6.2) λx74=>
    bu (idx p0.Owner x31.At) λx80=>
    bu (kV x31 c2_0) λx84=>
    bu (og (⟨(⟨s1.2.2.1,s1.2.2.2.1⟩:Arena),s1.2.2.2.2⟩:Parity) x80 x84 x74) λx86=>
    some (.inr (.inr (s6.1,((IntKind.i64.wrap (s1.2.1+1)):Int),x86.Arena.Owner,x86.Arena.Next,x86.Prio)))) q5
 else
  some (.inr (.inl (s1.1,s1.2.1,s1.2.2.1,s1.2.2.2.1,s1.2.2.2.2)))
def cY (p0:Arena) (p1:Place) (c2_0:(List Pair)):Option (Parity×(List Place)×Bool):=
 bu (bI (bO p0 c2_0) (2 ^ 64) ((([p1]:List Place):(List Place)),(0:Int),(([]:List Int):(List Int)),(([]:List (List Int)):(List (List Int))),(([]:List Int):(List Int)))) λq2=>
 aft (λr=>some r) (λs3=>
  some (((⟨(⟨s3.2.2.1,s3.2.2.2.1⟩:Arena),s3.2.2.2.2⟩:Parity):Parity),s3.1,true)) q2
def na  (v15:Int) (s1:(List Int)):Option ((Parity×(List Place)×Bool)⊕(((List Int))⊕((List Int)))):=
 bu (appS 8 s1 ([v15]:List Int)) λx22=>
 some (.inr (.inr (x22:(List Int))))
def gh (p0:Arena) (p1:(List Pair)) (p2:Int):Option (Parity×(List Place)×Bool):=
 bu (cntM na p1.length 0 (([]:List Int):(List Int))) λq2=>
 aft (λr=>some r) (λs3=>
  bu (cY p0 (⟨p2,s3⟩:Place) p1) λx29=>
  some (x29.1,x29.2.1,x29.2.2)) q2
def vp (p0:Arena):Option (Int):=
 some ((p0.Owner.length:Int):Int)
def nu  (v4:Int) (s1:(List Int)):Option ((List Int)⊕(((List Int))⊕((List Int)))):=
 bu (appS 8 s1 ([v4]:List Int)) λx20=>
 some (.inr (.inr (x20:(List Int))))
def ue (p0:Int):Option ((List Int)):=
 bu (bif decide (p0<0) then
 some true
 else
 some (decide (256<p0))) λp10=>
 bif p10 then
  some (([]:List Int):(List Int))
 else
  bu (rng p0) λ_=>
  bu (cntM nu (yn (p0-0)) 0 (([]:List Int):(List Int))) λq2=>
  aft (λr=>some r) (λs3=>
   some (s3:(List Int))) q2
def sb (p0:Arena):Option ((List Int)):=
 bu (vp p0) λx4=>
 bu (ue x4) λx5=>
 some (x5:(List Int))
def kY (v15:Int) (x18:(List Int)) (v22:Int) (s4:(List (List Int))):Option ((List (List Int))⊕(((List (List Int)))⊕((List (List Int))))):=
 bu (idx x18 v22) λx24=>
 bu (idx s4 x24) λx30=>
 bu (appS 8 x30 ([v15]:List Int)) λx34=>
 bu (idx s4 x24) λx35=>
 bu (setI s4 x24 (x34:(List Int))) λy578=>
 some (.inr (.inr (y578:(List (List Int)))))
def lD (p0:Arena) (v15:Int) (s1:(List (List Int))):Option ((List (List Int))⊕(((List (List Int)))⊕((List (List Int))))):=
 bu (idx p0.Next v15) λx18=>
 bu (cntM (kY v15 x18) x18.length 0 (s1:(List (List Int)))) λq5=>
 aft (λr=>some (.inl r)) (λs6=>
  some (.inr (.inr (s6:(List (List Int)))))) q5
def oJ (p0:Arena):Option ((List (List Int))):=
 bu (mkS 24 (p0.Owner.length:Int) (([]:List Int):(List Int))) λx11=>
 bu (cntM (lD p0) p0.Next.length 0 (x11:(List (List Int)))) λq2=>
 aft (λr=>some r) (λs3=>
  some (s3:(List (List Int)))) q2
def mh (p1:(List Int)) (v14:Int) (s1:(List Bool)):Option ((List Bool)⊕(((List Bool))⊕((List Bool)))):=
 bu (idx p1 v14) λx16=>
 bu (idx s1 x16) λx20=>
 bu (setI s1 x16 true) λy581=>
 some (.inr (.inr (y581:(List Bool))))
def pX (p0:Arena) (p1:(List Int)):Option ((List Bool)):=
 bu (mkS 1 (p0.Owner.length:Int) (false:Bool)) λx11=>
 bu (cntM (mh p1) p1.length 0 (x11:(List Bool))) λq2=>
 aft (λr=>some r) (λs3=>
  some (s3:(List Bool))) q2
def mD (p0:(List Bool)) (v9:Int) (s1:(List Int)):Option ((List Int)⊕(((List Int))⊕((List Int)))):=
 bu (idx p0 v9) λx12=>
 bu (bif x12 then
  bu (appS 8 s1 ([v9]:List Int)) λx18=>
  some (x18:(List Int))
 else
  some (s1:(List Int))) λq4=>
 some (.inr (.inr (q4:(List Int))))
def i9 (p0:(List Bool)):Option ((List Int)):=
 bu (cntM (mD p0) p0.length 0 (([]:List Int):(List Int))) λq2=>
 aft (λr=>some r) (λs3=>
  some (s3:(List Int))) q2
def nk (p0:Parity) (p1:(List Int)) (v10:Int) (s1:Int):Option (Int⊕((Int)⊕(Int))):=
 bu (idx p1 v10) λx12=>
 bu (idx p0.Prio x12) λx18=>
 some (.inr (.inr ((if s1<x18 then x18 else s1):Int)))
def rf (p0:Parity) (p1:(List Int)):Option (Int):=
 bu (cntM (nk p0 p1) p1.length 0 ((-1):Int)) λq2=>
 aft (λr=>some r) (λs3=>
  some (s3:Int)) q2
def dk (p2:(List Bool)) (x43:Int) (x79:(List Int)) (v82:Int) (s8:(List Int)):Option ((List Bool)⊕(((List Int))⊕((List Int)))):=
 bu (idx x79 v82) λx84=>
 bu (idx p2 x84) λx88=>
 bu (bif x88 then
  bu (idx s8 x43) λx92=>
  bu (idx s8 x43) λx95=>
  bu (setI s8 x43 (IntKind.i64.wrap (x92+1))) λy594=>
  some (y594:(List Int))
 else
  some (s8:(List Int))) λq11=>
 some (.inr (.inr (q11:(List Int))))
def fv (p0:solver) (p1:Int) (p2:(List Bool)) (x38:(List Int)) (v41:Int) (s4:(List Int)×(List Bool)×(List Int)):Option ((List Bool)⊕(((List Int)×(List Bool)×(List Int))⊕((List Int)×(List Bool)×(List Int)))):=
 bu (idx x38 v41) λx43=>
 bu (idx s4.2.1 x43) λx47=>
 bu (bif x47 then
 some true
 else
 bu (idx p2 x43) λx52=>
 some (!x52)) λp55=>
 bif p55 then
  some (.inr (.inr (s4.1,s4.2.1,s4.2.2)))
 else
  bu (idx p0.game.Arena.Owner x43) λx63=>
  bif (x63 !=p1) then
   bu (idx s4.2.2 x43) λx69=>
   bu (bif (x69==0) then
    bu (idx p0.game.Arena.Next x43) λx79=>
    bu (cntM (dk p2 x43 x79) x79.length 0 (s4.2.2:(List Int))) λq9=>
    aft (λr=>none) (λs10=>
     some (s10:(List Int))) q9
   else
    some (s4.2.2:(List Int))) λq7=>
   bu (idx q7 x43) λx99=>
   bu (idx q7 x43) λx102=>
   bu (setI q7 x43 (IntKind.i64.wrap (x99-1))) λy595=>
   bu (idx y595 x43) λx105=>
   bif decide (0<x105) then
    some (.inr (.inr (s4.1,s4.2.1,y595)))
   else
    bu (idx s4.2.1 x43) λx110=>
    bu (setI s4.2.1 x43 true) λy596=>
    bu (appS 8 s4.1 ([x43]:List Int)) λx114=>
    some (.inr (.inr (x114,y596,y595)))
  else
   bu (idx s4.2.1 x43) λx110=>
   bu (setI s4.2.1 x43 true) λy596=>
   bu (appS 8 s4.1 ([x43]:List Int)) λx114=>
   some (.inr (.inr (x114,y596,s4.2.2)))
def iL (p0:solver) (p1:Int) (p2:(List Bool)) (s1:(List Int)×(List Bool)×(List Int)):Option ((List Bool)⊕(((List Int)×(List Bool)×(List Int))⊕((List Int)×(List Bool)×(List Int)))):=
 bif decide (0<(s1.1.length:Int)) then
  bu (idx s1.1 0) λx29=>
  bu (subS s1.1 1 (s1.1.length:Int)) λx32=>
  bu (idx p0.preds x29) λx38=>
  bu (cntM (fv p0 p1 p2 x38) x38.length 0 (x32,s1.2.1,s1.2.2)) λq5=>
  aft (λr=>some (.inl r)) (λs6=>
   some (.inr (.inr (s6.1,s6.2.1,s6.2.2)))) q5
 else
  some (.inr (.inl (s1.1,s1.2.1,s1.2.2)))
def iP (p0:solver) (p1:Int) (p2:(List Bool)) (p3:(List Bool)):Option ((List Bool)):=
 bu (appS 1 ([]:List Bool) p3) λx19=>
 bu (mkS 8 (p2.length:Int) (0:Int)) λx22=>
 bu (i9 p3) λx24=>
 bu (bI (iL p0 p1 p2) (2 ^ 64) (x24,x19,x22)) λq2=>
 aft (λr=>some r) (λs3=>
  some (s3.2.1:(List Bool))) q2
def lN (p0:(List Bool)) (p1:(List Bool)) (v12:Int) (s1:(List Bool)):Option ((List Bool)⊕(((List Bool))⊕((List Bool)))):=
 bu (idx p0 v12) λx19=>
 bu (bif x19 then
 bu (idx p1 v12) λx24=>
 some (!x24)
 else
 some false) λp27=>
 bu (idx s1 v12) λx28=>
 bu (setI s1 v12 p27) λy600=>
 some (.inr (.inr (y600:(List Bool))))
def gi (p0:(List Bool)) (p1:(List Bool)):Option ((List Bool)):=
 bu (mkS 1 (p0.length:Int) (false:Bool)) λx9=>
 bu (cntM (lN p0 p1) p0.length 0 (x9:(List Bool))) λq2=>
 aft (λr=>some r) (λs3=>
  some (s3:(List Bool))) q2
def dy (p0:(List Bool)) (p1:Bool) (v8:Int) (s1:Unit):Option (Int⊕((Unit)⊕(Unit))):=
 bu (idx p0 v8) λx14=>
 bif (p1==x14) then
  some (.inl (v8:Int))
 else
  some (.inr (.inr ()))
def gX (p0:(List Bool)) (p1:Bool):Option (Int):=
 bu (cntM (dy p0 p1) p0.length 0 ()) λq2=>
 aft (λr=>some r) (λs3=>
  some ((-1):Int)) q2
def cW (p0:(List Bool)) (p1:Bool):Option (Bool):=
 bu (gX p0 p1) λx7=>
 some (decide (0<=x7):Bool)
def jp (p0:solver) (x27:Int) (s1:(List Bool)) (v38:Int) (s4:(List Bool)):Option (((List Bool)×Int)⊕(((List Bool))⊕((List Bool)))):=
 bu (idx s1 v38) λx45=>
 bu (bif x45 then
 bu (idx p0.game.Prio v38) λx54=>
 some (x54==x27)
 else
 some false) λp58=>
 bu (idx s4 v38) λx59=>
 bu (setI s4 v38 p58) λy589=>
 some (.inr (.inr (y589:(List Bool))))
def jo (rc:solver->(List Bool)->Option ((List Bool)×Int)) (p0:solver) (p1:(List Bool)) (x27:Int) (s1:(List Bool)):Option (((List Bool)×Int)⊕(((List Bool))⊕((List Bool)))):=
 bu (mkS 1 (p1.length:Int) (false:Bool)) λx35=>
 bu (cntM (jp p0 x27 s1) x35.length 0 (x35:(List Bool))) λq5=>
 aft (λr=>some (.inl r)) (λs6=>
  bu (iP p0 (Int.tmod x27 2) s1 s6) λx66=>
  bu (gi s1 x66) λx67=>
  bu (rc p0 x67) λx71=>
  bu (bif (x71.2==(Int.tmod x27 2)) then
   bu (gi x67 x71.1) λx80=>
   some (x80:(List Bool))
  else
   some (x71.1:(List Bool))) λq7=>
  bu (cW q7 true) λx82=>
  bif (!x82) then
   some (.inl (s1,((Int.tmod x27 2):Int)))
  else
   bu (iP p0 (IntKind.i64.wrap (1-(Int.tmod x27 2))) s1 q7) λx92=>
   bu (gi s1 x92) λx93=>
   bu (cW x93 true) λx95=>
   bif (!x95) then
    some (.inl (x93,((Int.tmod x27 2):Int)))
   else
    some (.inr (.inr (x93:(List Bool))))) q5
def fb (rc:solver->(List Bool)->Option ((List Bool)×Int)) (p0:solver) (p1:(List Bool)):Option ((List Bool)×Int):=
 bu (i9 p1) λx17=>
 bif ((x17.length:Int)==0) then
  some (p1,(0:Int))
 else
  bu (rf p0.game x17) λx27=>
  bu (appS 1 ([]:List Bool) p1) λx32=>
  bu (bI (jo rc p0 p1 x27) (2 ^ 64) (x32:(List Bool))) λq2=>
  aft (λr=>some r) (λs3=>
   none) q2
def fG:Nat->solver->(List Bool)->Option ((List Bool)×Int)
 | 0=>λ_ _=>none
 | n+1=>fb (fG n)
def pp (p0:Parity) (p1:(List Int)):Option ((List Int)×(List Int)):=
 bu (oJ p0.Arena) λx13=>
 bu (pX p0.Arena p1) λx19=>
 bu (fG (2 ^ 64) (⟨p0,x13⟩:solver) x19) λx23=>
 bif (x23.2==0) then
  bu (i9 x23.1) λx29=>
  bu (gi x19 x23.1) λx32=>
  bu (i9 x32) λx33=>
  some (x29,x33)
 else
  bu (gi x19 x23.1) λx36=>
  bu (i9 x36) λx37=>
  bu (i9 x23.1) λx39=>
  some (x37,x39)
def kT (x17:(List Int)×(List Int)) (v22:Int) (s1:(List Int)):Option ((List Int)⊕(((List Int))⊕((List Int)))):=
 bu (idx x17.2 v22) λx24=>
 bu (idx s1 x24) λx28=>
 bu (setI s1 x24 1) λy614=>
 some (.inr (.inr (y614:(List Int))))
def iK (p0:Parity):Option ((List Int)):=
 bu (mkS 8 (p0.Prio.length:Int) (0:Int)) λx11=>
 bu (sb p0.Arena) λx16=>
 bu (pp p0 x16) λx17=>
 bu (cntM (kT x17) x17.2.length 0 (x11:(List Int))) λq2=>
 aft (λr=>some r) (λs3=>
  some (s3:(List Int))) q2
def kZ (p0:Arena) (v25:Int) (s1:Unit):Option (Bool⊕((Unit)⊕(Unit))):=
 bu (idx p0.Next v25) λx28=>
 bu (idx p0.Owner v25) λx33=>
 bu (bif decide (x33<0) then
 some true
 else
 bu (idx p0.Owner v25) λx40=>
 some (decide (1<x40))) λp43=>
 bu (bif p43 then
 some true
 else
 some (decide ((x28.length:Int)<1))) λp48=>
 bu (bif p48 then
 some true
 else
 some (decide (16<(x28.length:Int)))) λp53=>
 bu (bif p53 then
 some true
 else
 bu (lj x28 (p0.Owner.length:Int)) λx57=>
 some (!x57)) λp59=>
 bif p59 then
  some (.inl (false:Bool))
 else
  some (.inr (.inr ()))
def oH (p0:Arena):Option (Bool):=
 bu (bif decide ((p0.Owner.length:Int)<1) then
 some true
 else
 some (decide (256<(p0.Owner.length:Int)))) λp14=>
 bu (bif p14 then
 some true
 else
 some ((p0.Next.length:Int) !=(p0.Owner.length:Int))) λp21=>
 bif p21 then
  some (false:Bool)
 else
  bu (cntM (kZ p0) p0.Next.length 0 ()) λq2=>
  aft (λr=>some r) (λs3=>
   some (true:Bool)) q2
def kl (p0:Parity) (v22:Int) (s1:Unit):Option (Bool⊕((Unit)⊕(Unit))):=
 bu (idx p0.Prio v22) λx24=>
 bu (bif decide (x24<0) then
 some true
 else
 some (decide (40<x24))) λp31=>
 bif p31 then
  some (.inl (false:Bool))
 else
  some (.inr (.inr ()))
def nq (p0:Parity):Option (Bool):=
 bu (oH p0.Arena) λx7=>
 bu (bif (!x7) then
 some true
 else
 some ((p0.Prio.length:Int) !=(p0.Arena.Owner.length:Int))) λp18=>
 bif p18 then
  some (false:Bool)
 else
  bu (cntM (kl p0) p0.Prio.length 0 ()) λq2=>
  aft (λr=>some r) (λs3=>
   some (true:Bool)) q2
def oN  (v11:Int) (s1:(List Int)):Option ((List Int)⊕(((List Int))⊕((List Int)))):=
 bu (idx s1 v11) λx16=>
 bu (setI s1 v11 (-1)) λy621=>
 some (.inr (.inr (y621:(List Int))))
def pR (p0:Arena):Option ((List Int)):=
 bu (mkS 8 (p0.Owner.length:Int) (0:Int)) λx8=>
 bu (cntM oN x8.length 0 (x8:(List Int))) λq2=>
 aft (λr=>some r) (λs3=>
  some (s3:(List Int))) q2
def kw (p0:Answer) (p1:Int) (v16:Int) (s1:(List Int)):Option ((List Int)⊕(((List Int))⊕((List Int)))):=
 bu (idx p0.Won v16) λx19=>
 bu (bif (x19==p1) then
  bu (appS 8 s1 ([v16]:List Int)) λx27=>
  some (x27:(List Int))
 else
  some (s1:(List Int))) λq4=>
 some (.inr (.inr (q4:(List Int))))
def ns (p0:Answer) (p1:Int):Option ((List Int)):=
 bif decide (256<(p0.Won.length:Int)) then
  some (([]:List Int):(List Int))
 else
  bu (cntM (kw p0 p1) p0.Won.length 0 (([]:List Int):(List Int))) λq2=>
  aft (λr=>some r) (λs3=>
   some (s3:(List Int))) q2
def j9 (p0:(List (List Int))) (v9:Int) (s1:(List (List Int))):Option ((List (List Int))⊕(((List (List Int)))⊕((List (List Int))))):=
 bu (idx p0 v9) λx11=>
 bu (appS 8 ([]:List Int) x11) λx16=>
 bu (appS 24 s1 ([x16]:List (List Int))) λx18=>
 some (.inr (.inr (x18:(List (List Int)))))
def oW (p0:(List (List Int))):Option ((List (List Int))):=
 bu (cntM (j9 p0) p0.length 0 (([]:List (List Int)):(List (List Int)))) λq2=>
 aft (λr=>some r) (λs3=>
  some (s3:(List (List Int)))) q2
def lS (p0:Arena):Option (Arena):=
 bu (appS 8 ([]:List Int) p0.Owner) λx6=>
 bu (oW p0.Next) λx9=>
 some ((⟨x6,x9⟩:Arena):Arena)
def kU (p1:(List Int)) (v12:Int) (s1:(List (List Int))):Option (Arena⊕(((List (List Int)))⊕((List (List Int))))):=
 bu (idx p1 v12) λx15=>
 bu (bif decide (0<=x15) then
  bu (idx s1 v12) λx24=>
  bu (setI s1 v12 (([x15]:List Int):(List Int))) λy638=>
  some (y638:(List (List Int)))
 else
  some (s1:(List (List Int)))) λq4=>
 some (.inr (.inr (q4:(List (List Int)))))
def oD (p0:Arena) (p1:(List Int)):Option (Arena):=
 bu (lS p0) λx9=>
 bu (cntM (kU p1) p1.length 0 (x9.Next:(List (List Int)))) λq2=>
 aft (λr=>some r) (λs3=>
  some ((⟨x9.Owner,s3⟩:Arena):Arena)) q2
def pN (p0:Parity) (p1:(List Int)):Option (Parity):=
 bu (oD p0.Arena p1) λx8=>
 bu (appS 8 ([]:List Int) p0.Prio) λx12=>
 some ((⟨(⟨x8.Owner,x8.Next⟩:Arena),x12⟩:Parity):Parity)
def iO (p0:Parity) (p2:(List Int)) (v19:Int) (x46:(List Int)) (x51:(List Int)) (v54:Int) (s4:(List Int)):Option (Answer⊕(((List Int))⊕((List Int)))):=
 bu (idx x51 v54) λx56=>
 bu (idx p2 x56) λx60=>
 bu (idx p2 v19) λx64=>
 bif (x60 !=x64) then
  some (.inr (.inr (s4:(List Int))))
 else
  bu (idx s4 v19) λx70=>
  bu (setI s4 v19 x56) λy628=>
  bu (pN p0 y628) λx74=>
  bu (pp x74 x46) λx76=>
  bu (idx p2 v19) λx81=>
  bu (bif (x81==0) then
  some ((x76.2.length:Int)==0)
  else
  some false) λp88=>
  bu (bif p88 then
  some true
  else
  bu (idx p2 v19) λx92=>
  bu (bif (x92==1) then
  some ((x76.1.length:Int)==0)
  else
  some false) λp99=>
  some p99) λp100=>
  bif p100 then
   some (.inr (.inl (y628:(List Int))))
  else
   bu (idx y628 v19) λx103=>
   bu (setI y628 v19 (-1)) λy641=>
   some (.inr (.inr (y641:(List Int))))
def kn (p0:Parity) (p2:(List Int)) (v19:Int) (s1:(List Int)):Option (Answer⊕(((List Int))⊕((List Int)))):=
 bu (idx p2 v19) λx30=>
 bu (idx p0.Arena.Owner v19) λx26=>
 bu (bif (x26 !=x30) then
 some true
 else
 bu (idx s1 v19) λx36=>
 some (decide (0<=x36))) λp39=>
 bif p39 then
  some (.inr (.inr (s1:(List Int))))
 else
  bu (idx p2 v19) λx44=>
  bu (ns (⟨p2,([]:List Int)⟩:Answer) x44) λx46=>
  bu (idx p0.Arena.Next v19) λx51=>
  bu (cntM (iO p0 p2 v19 x46 x51) x51.length 0 (s1:(List Int))) λq5=>
  aft (λr=>some (.inl r)) (λs6=>
   some (.inr (.inr (s6:(List Int))))) q5
def nt (p0:Parity) (p1:(List Int)) (p2:(List Int)):Option (Answer):=
 bu (appS 8 ([]:List Int) p1) λx16=>
 bu (cntM (kn p0 p2) x16.length 0 (x16:(List Int))) λq2=>
 aft (λr=>some r) (λs3=>
  bu (appS 8 ([]:List Int) p2) λx108=>
  some ((⟨x108,s3⟩:Answer):Answer)) q2
def lY (p0:Parity):Option (Answer):=
 bu (nq p0) λx4=>
 bif (!x4) then
  some ((⟨([]:List Int),([]:List Int)⟩:Answer):Answer)
 else
  bu (pR p0.Arena) λx10=>
  bu (iK p0) λx12=>
  bu (nt p0 x10 x12) λx13=>
  some (x13:Answer)
def kr (p0:Int) (c0:(List Place)) (c1:Int) (c2:Int) (c3:Sig) (c4:Int):Option (Bool):=
 bu (idx c0 p0) λx10=>
 bu (cn c3) λx16=>
 some ((x10.At==(IntKind.i64.wrap ((IntKind.i64.wrap (c1+(IntKind.i64.wrap (c2 * x16))))+c4))):Bool)
def cq (p0:(List Int)) (c1_0:(List Place)) (c1_1:Int) (c1_2:Int) (c1_3:Sig) (c1_4:Int) (v8:Int) (s1:Unit):Option (Int⊕((Unit)⊕(Unit))):=
 bu (idx p0 v8) λx14=>
 bu (kr x14 c1_0 c1_1 c1_2 c1_3 c1_4) λx16=>
 bif x16 then
  some (.inl (v8:Int))
 else
  some (.inr (.inr ()))
def cc (p0:(List Int)) (c1_0:(List Place)) (c1_1:Int) (c1_2:Int) (c1_3:Sig) (c1_4:Int):Option (Int):=
 bu (cntM (cq p0 c1_0 c1_1 c1_2 c1_3 c1_4) p0.length 0 ()) λq2=>
 aft (λr=>some r) (λs3=>
  some ((-1):Int)) q2
def ku (p0:(List Pair)) (p1:Int) (v9:Int) (s1:Unit):Option (Bool⊕((Unit)⊕(Unit))):=
 bu (idx p0 v9) λx11=>
 bu (lj x11.Ask p1) λx16=>
 bu (bif (!x16) then
 some true
 else
 bu (lj x11.Give p1) λx22=>
 some (!x22)) λp24=>
 bif p24 then
  some (.inl (false:Bool))
 else
  some (.inr (.inr ()))
def nB (p0:(List Pair)) (p1:Int):Option (Bool):=
 bu (cntM (ku p0 p1) p0.length 0 ()) λq2=>
 aft (λr=>some r) (λs3=>
  some (decide ((p0.length:Int)<=4):Bool)) q2
def nA (p0:Sig) (p1:Det) (v27:Int) (s1:Unit):Option (Bool⊕((Unit)⊕(Unit))):=
 bu (idx p1.Next v27) λx29=>
 bu (dI p0) λx34=>
 bu (bif ((x29.length:Int) !=x34) then
 some true
 else
 bu (cM x29 (p1.Next.length:Int)) λx39=>
 some (!x39)) λp41=>
 bif p41 then
  some (.inl (false:Bool))
 else
  some (.inr (.inr ()))
def re (p0:Sig) (p1:Det):Option (Bool):=
 bu (bif decide ((p1.Next.length:Int)<1) then
 some true
 else
 some (decide (48<(p1.Next.length:Int)))) λp16=>
 bu (bif p16 then
 some true
 else
 bu (nB p1.Pairs (p1.Next.length:Int)) λx21=>
 some (!x21)) λp23=>
 bif p23 then
  some (false:Bool)
 else
  bu (cntM (nA p0 p1) p1.Next.length 0 ()) λq2=>
  aft (λr=>some r) (λs3=>
   some (true:Bool)) q2
def jH (p0:Sig) (p1:Det) (p2:Int) (p3:Int) (p4:Int) (v47:Int) (s1:(List Int)):Option ((List Int)⊕(((List Int))⊕((List Int)))):=
 bu (idx p1.Next p2) λx53=>
 bu (cn p0) λx57=>
 bu (idx x53 (IntKind.i64.wrap ((IntKind.i64.wrap (v47 * x57))+p3))) λx61=>
 bu (bif (x61==p4) then
  bu (appS 8 s1 ([v47]:List Int)) λx68=>
  some (x68:(List Int))
 else
  some (s1:(List Int))) λq4=>
 some (.inr (.inr (q4:(List Int))))
def ml (p0:Sig) (p1:Det) (p2:Int) (p3:Int) (p4:Int):Option ((List Int)):=
 bu (jv p0) λx14=>
 bu (bif (!x14) then
 some true
 else
 bu (re p0 p1) λx19=>
 some (!x19)) λp21=>
 bu (bif p21 then
 some true
 else
 some (decide (p2<0))) λp25=>
 bu (bif p25 then
 some true
 else
 some (decide ((p1.Next.length:Int)<=p2))) λp32=>
 bu (bif p32 then
 some true
 else
 some (decide (p3<0))) λp36=>
 bu (bif p36 then
 some true
 else
 bu (cn p0) λx40=>
 some (decide (x40<=p3))) λp42=>
 bif p42 then
  some (([]:List Int):(List Int))
 else
  bu (nn p0.Out) λ_z46=>
  bu (rng (IntKind.i64.wrap (1 * 2 ^ (min (yn p0.Out) (IntKind.bits IntKind.i64))))) λ_=>
  bu (cntM (jH p0 p1 p2 p3 p4) (yn ((IntKind.i64.wrap (1 * 2 ^ (min (yn p0.Out) (IntKind.bits IntKind.i64))))-0)) 0 (([]:List Int):(List Int))) λq2=>
  aft (λr=>some r) (λs3=>
   some (s3:(List Int))) q2
def fj (p0:Sig) (x27:Det×Bool) (x42:Parity×(List Place)×Bool) (x57:Answer) (s1:(List Int)×Int×(List (List Int))×(List (List Int))) (x75:Place) (v82:Int) (s4:(List Int)×(List Int)×(List Int)):Option ((Machine×Bool)⊕(((List Int)×(List Int)×(List Int))⊕((List Int)×(List Int)×(List Int)))):=
 bu (idx s4.1 s1.2.1) λx90=>
 bu (idx x42.1.Arena.Next x90) λx92=>
 bu (cc x92 x42.2.1 (x27.1.Next.length:Int) x75.At p0 v82) λx95=>
 bu (idx s4.1 s1.2.1) λx102=>
 bu (idx x42.1.Arena.Next x102) λx104=>
 bu (idx x104 x95) λx107=>
 bu (idx x57.Plan x107) λx109=>
 bu (ch s4.1 x109) λx113=>
 bu (bif decide (x113<0) then
  bu (appS 8 s4.1 ([x109]:List Int)) λx121=>
  some (x121,((s4.1.length:Int):Int))
 else
  some (s4.1,x113)) λq7=>
 bu (appS 8 s4.2.1 ([q7.2]:List Int)) λx125=>
 bu (idx x42.2.1 x109) λx133=>
 bu (ml p0 x27.1 x75.At v82 x133.At) λx136=>
 bu (idx x136 0) λx137=>
 bu (appS 8 s4.2.2 ([x137]:List Int)) λx140=>
 some (.inr (.inr (q7.1,x125,x140)))
def ij (p0:Sig) (x27:Det×Bool) (x42:Parity×(List Place)×Bool) (x57:Answer) (s1:(List Int)×Int×(List (List Int))×(List (List Int))):Option ((Machine×Bool)⊕(((List Int)×Int×(List (List Int))×(List (List Int)))⊕((List Int)×Int×(List (List Int))×(List (List Int))))):=
 bif decide (s1.2.1<(s1.1.length:Int)) then
  bu (idx s1.1 s1.2.1) λx73=>
  bu (idx x42.2.1 x73) λx75=>
  bu (cn p0) λx81=>
  bu (rng x81) λ_=>
  bu (cntM (fj p0 x27 x42 x57 s1 x75) (yn (x81-0)) 0 (s1.1,(([]:List Int):(List Int)),(([]:List Int):(List Int)))) λq5=>
  aft (λr=>some (.inl r)) (λs6=>
   bu (appS 24 s1.2.2.1 ([s6.2.1]:List (List Int))) λx146=>
   bu (appS 24 s1.2.2.2 ([s6.2.2]:List (List Int))) λx152=>
   some (.inr (.inr (s6.1,((IntKind.i64.wrap (s1.2.1+1)):Int),x146,x152)))) q5
 else
  some (.inr (.inl (s1.1,s1.2.1,s1.2.2.1,s1.2.2.2)))
def mq (p0:Sig) (p1:(List Clause)):Option (Machine×Bool):=
 bu (eW p0 p1) λx27=>
 bif (!x27.2) then
  some (((⟨([]:List (List Int)),([]:List (List Int))⟩:Machine):Machine),false)
 else
  bu (gu p0 x27.1) λx36=>
  bu (gh x36.1 x36.2 0) λx42=>
  bu (bif (!x42.2.2) then
  some true
  else
  bu (iK x42.1) λx50=>
  bu (idx x50 0) λx51=>
  some (x51 !=0)) λp54=>
  bif p54 then
   some (((⟨([]:List (List Int)),([]:List (List Int))⟩:Machine):Machine),false)
  else
   bu (lY x42.1) λx57=>
   bu (bI (ij p0 x27 x42 x57) (2 ^ 64) ((([0]:List Int):(List Int)),(0:Int),(([]:List (List Int)):(List (List Int))),(([]:List (List Int)):(List (List Int))))) λq2=>
   aft (λr=>some r) (λs3=>
    bif decide (48<(s3.1.length:Int)) then
     some (((⟨([]:List (List Int)),([]:List (List Int))⟩:Machine):Machine),false)
    else
     some (((⟨s3.2.2.1,s3.2.2.2⟩:Machine):Machine),true)) q2
def km (p0:Int) (c0:(List Place)) (c1:Int):Option (Bool):=
 bu (idx c0 p0) λx7=>
 some ((x7.At==c1):Bool)
def co (p0:(List Int)) (c1_0:(List Place)) (c1_1:Int) (v8:Int) (s1:Unit):Option (Int⊕((Unit)⊕(Unit))):=
 bu (idx p0 v8) λx14=>
 bu (km x14 c1_0 c1_1) λx16=>
 bif x16 then
  some (.inl (v8:Int))
 else
  some (.inr (.inr ()))
def cd (p0:(List Int)) (c1_0:(List Place)) (c1_1:Int):Option (Int):=
 bu (cntM (co p0 c1_0 c1_1) p0.length 0 ()) λq2=>
 aft (λr=>some r) (λs3=>
  some ((-1):Int)) q2
def gF (p0:Sig) (p1:Det) (p2:Parity) (p3:(List Place)) (x42:Place) (x50:Int) (x54:Place) (x60:Int) (v66:Int) (s4:(List Int)×(List Int)):Option (Rival⊕(((List Int)×(List Int))⊕((List Int)×(List Int)))):=
 bu (idx p1.Next x42.At) λx72=>
 bu (cn p0) λx76=>
 bu (idx x72 (IntKind.i64.wrap ((IntKind.i64.wrap (v66 * x76))+(Int.tmod (IntKind.i64.wrap (x54.At-(p1.Next.length:Int))) x60)))) λx80=>
 bu (idx p2.Arena.Next x50) λx86=>
 bu (cd x86 p3 x80) λx89=>
 bu (idx p2.Arena.Next x50) λx94=>
 bu (idx x94 x89) λx97=>
 bu (ch s4.1 x97) λx101=>
 bu (bif decide (x101<0) then
  bu (appS 8 s4.1 ([x97]:List Int)) λx109=>
  some (x109,((s4.1.length:Int):Int))
 else
  some (s4.1,x101)) λq7=>
 bu (appS 8 s4.2 ([q7.2]:List Int)) λx113=>
 some (.inr (.inr (q7.1,x113)))
def gO (p0:Sig) (p1:Det) (p2:Parity) (p3:(List Place)) (x24:Answer) (s1:(List Int)×Int×(List Int)×(List (List Int))):Option (Rival⊕(((List Int)×Int×(List Int)×(List (List Int)))⊕((List Int)×Int×(List Int)×(List (List Int))))):=
 bif decide (s1.2.1<(s1.1.length:Int)) then
  bu (idx s1.1 s1.2.1) λx40=>
  bu (idx p3 x40) λx42=>
  bu (idx s1.1 s1.2.1) λx48=>
  bu (idx x24.Plan x48) λx50=>
  bu (idx p3 x50) λx54=>
  bu (cn p0) λx60=>
  bu (nz x60) λ_z61=>
  bu (nn p0.Out) λ_z65=>
  bu (rng (IntKind.i64.wrap (1 * 2 ^ (min (yn p0.Out) (IntKind.bits IntKind.i64))))) λ_=>
  bu (cntM (gF p0 p1 p2 p3 x42 x50 x54 x60) (yn ((IntKind.i64.wrap (1 * 2 ^ (min (yn p0.Out) (IntKind.bits IntKind.i64))))-0)) 0 (s1.1,(([]:List Int):(List Int)))) λq5=>
  aft (λr=>some (.inl r)) (λs6=>
   bu (appS 8 s1.2.2.1 ([(Int.tmod (IntKind.i64.wrap (x54.At-(p1.Next.length:Int))) x60)]:List Int)) λx119=>
   bu (appS 24 s1.2.2.2 ([s6.2]:List (List Int))) λx125=>
   some (.inr (.inr (s6.1,((IntKind.i64.wrap (s1.2.1+1)):Int),x119,x125)))) q5
 else
  some (.inr (.inl (s1.1,s1.2.1,s1.2.2.1,s1.2.2.2)))
def mj (p0:Sig) (p1:Det) (p2:Parity) (p3:(List Place)):Option (Rival):=
 bu (lY p2) λx24=>
 bu (bI (gO p0 p1 p2 p3 x24) (2 ^ 64) ((([0]:List Int):(List Int)),(0:Int),(([]:List Int):(List Int)),(([]:List (List Int)):(List (List Int))))) λq2=>
 aft (λr=>some r) (λs3=>
  some ((⟨s3.2.2.1,s3.2.2.2⟩:Rival):Rival)) q2
def mA (p0:Sig) (p1:(List Clause)):Option (Rival×Bool):=
 bu (eW p0 p1) λx15=>
 bif (!x15.2) then
  some (((⟨([]:List Int),([]:List (List Int))⟩:Rival):Rival),false)
 else
  bu (gu p0 x15.1) λx24=>
  bu (gh x24.1 x24.2 0) λx30=>
  bu (bif (!x30.2.2) then
  some true
  else
  bu (iK x30.1) λx38=>
  bu (idx x38 0) λx39=>
  some (x39 !=1)) λp42=>
  bif p42 then
   some (((⟨([]:List Int),([]:List (List Int))⟩:Rival):Rival),false)
  else
   bu (mj p0 x15.1 x30.1 x30.2.1) λx48=>
   some (x48,true)
end Go.Proofs.YtpcjbkgbnoocaaaGreat
