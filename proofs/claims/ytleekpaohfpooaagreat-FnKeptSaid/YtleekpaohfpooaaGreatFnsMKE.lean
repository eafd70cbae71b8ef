/- The functions on data. By program. -/
import Derived.Test.YtleekpaohfpooaaGreatTypesKE
import Derived.Test.YtleekpaohfpooaaGreatCompKE
set_option linter.unusedVariables false
set_option linter.unusedSimpArgs false
open Option renaming bind → bC
open Int renaming toNat → yG
namespace Go.Proofs.YtleekpaohfpooaaGreat
open Go Go.Wk Go.Proofs
set_option maxRecDepth 100000
set_option maxHeartbeats 1000000
def ug (p0:(List Int)):Option (Bool):=
 some (decide (4096<(p0.length:Int)):Bool)
def kW (p0:(List Int)) (v6:Int) (s1:Int):Option (dice⊕((Int)⊕(Int))):=
 bC (idx p0 v6) λx30=>
 some (.inr (.inr ((IntKind.u64.wrap ((IntKind.u64.wrap ((IntKind.u64.wrap (s1 * 1099511628211))+(IntKind.u64.wrap x30)))+3)):Int)))
def qg (p0:(List Int)) (p1:Int):Option (dice):=
 bC (cntM (kW p0) p0.length 0 ((IntKind.u64.wrap ((IntKind.u64.wrap (p1 * 7919))+(IntKind.u64.wrap (p0.length:Int)))):Int)) λq2=>
 aft (λr=>some r) (λs3=>
  some ((⟨p0,0,s3⟩:dice):dice)) q2
def cJ (p0:dice) (p1:Int):Option (Int×Int×Int):=
 bC (bif decide (p0.i<(p0.b.length:Int)) then
  bC (idx p0.b p0.i) λx41=>
  some (((IntKind.i64.wrap ((IntKind.i64.wrap (IntKind.u64.wrap (BitVec.toNat (BitVec.ofInt (IntKind.bits IntKind.u64) (Int.fdiv (IntKind.u64.wrap ((IntKind.u64.wrap (p0.h * 6364136223846793005))+1442695040888963407)) (2 ^ (min (yG 33) (IntKind.bits IntKind.u64)))) &&& BitVec.ofInt (IntKind.bits IntKind.u64) 16777215))))+(IntKind.i64.wrap x41))):Int),((IntKind.i64.wrap (p0.i+1)):Int))
 else
  some (((IntKind.i64.wrap (IntKind.u64.wrap (BitVec.toNat (BitVec.ofInt (IntKind.bits IntKind.u64) (Int.fdiv (IntKind.u64.wrap ((IntKind.u64.wrap (p0.h * 6364136223846793005))+1442695040888963407)) (2 ^ (min (yG 33) (IntKind.bits IntKind.u64)))) &&& BitVec.ofInt (IntKind.bits IntKind.u64) 16777215)))):Int),p0.i)) λq1=>
 bC (nz p1) λ_z55=>
 some (((Int.tmod q1.1 p1):Int),q1.2,((IntKind.u64.wrap ((IntKind.u64.wrap (p0.h * 6364136223846793005))+1442695040888963407)):Int))
def jL (p0:dice) (v6:Int) (s1:(List Int)×Int×Int):Option (((List Int)×Int×Int)⊕(((List Int)×Int×Int)⊕((List Int)×Int×Int))):=
 bC (cJ (⟨p0.b,s1.2.1,s1.2.2⟩:dice) 2) λx14=>
 bC (bif (x14.1==0) then
  bC (appS 8 s1.1 ([v6]:List Int)) λx19=>
  some (x19:(List Int))
 else
  some (s1.1:(List Int))) λq4=>
 some (.inr (.inr (q4,x14.2.1,x14.2.2)))
def mM (p0:dice) (p1:Int):Option ((List Int)×Int×Int):=
 bC (rng p1) λ_=>
 bC (cntM (jL p0) (yG (p1-0)) 0 ((([]:List Int):(List Int)),p0.i,p0.h)) λq2=>
 aft (λr=>some r) (λs3=>
  some (s3.1,s3.2.1,s3.2.2)) q2
def j0 (p0:dice):Option (Clause×Int×Int):=
 bC (cJ p0 7) λx5=>
 bC (mM (⟨p0.b,x5.2.1,x5.2.2⟩:dice) 4) λx8=>
 bC (bif ((IntKind.i64.wrap (1+x5.1))==2) then
 some true
 else
 some ((IntKind.i64.wrap (1+x5.1))==3)) λp17=>
 bC (bif p17 then
 some true
 else
 some ((IntKind.i64.wrap (1+x5.1))==7)) λp22=>
 bC (bif p22 then
  bC (mM (⟨p0.b,x8.2.1,x8.2.2⟩:dice) 4) λx24=>
  some (x24.2.1,x24.2.2,x24.1)
 else
  some (x8.2.1,x8.2.2,(([]:List Int):(List Int)))) λq1=>
 some (((⟨(IntKind.i64.wrap (1+x5.1)),x8.1,q1.2.2⟩:Clause):Clause),q1.1,q1.2.1)
def fx (p0:dice) (s1:(List Clause)×Int×Int×Int):Option (((List Clause)×Int×Int)⊕(((List Clause)×Int×Int×Int)⊕((List Clause)×Int×Int×Int))):=
 bif decide (0<s1.2.1) then
  bC (j0 (⟨p0.b,s1.2.2.1,s1.2.2.2⟩:dice)) λx18=>
  bC (appS 56 s1.1 ([x18.1]:List Clause)) λx20=>
  some (.inr (.inr (x20,((IntKind.i64.wrap (s1.2.1-1)):Int),x18.2.1,x18.2.2)))
 else
  some (.inr (.inl (s1.1,s1.2.1,s1.2.2.1,s1.2.2.2)))
def iT (p0:dice) (p1:Int):Option ((List Clause)×Int×Int):=
 bC (cJ p0 (IntKind.i64.wrap (p1+1))) λx11=>
 bC (ca (fx p0) (2 ^ 64) ((([]:List Clause):(List Clause)),x11.1,x11.2.1,x11.2.2)) λq2=>
 aft (λr=>some r) (λs3=>
  some (s3.1,s3.2.2.1,s3.2.2.2)) q2
def lw (p0:Sig):Option (Bool):=
 bC (bif decide (1<=p0.In) then
 some (decide (p0.In<=2))
 else
 some false) λp10=>
 bC (bif p10 then
 some (decide (1<=p0.Out))
 else
 some false) λp15=>
 bC (bif p15 then
 some (decide (p0.Out<=2))
 else
 some false) λp20=>
 some (p20:Bool)
def c8 (p0:Sig):Option (Int):=
 bC (nn (IntKind.i64.wrap (p0.In+p0.Out))) λ_z8=>
 some ((IntKind.i64.wrap (1 * 2 ^ (min (yG (IntKind.i64.wrap (p0.In+p0.Out))) (IntKind.bits IntKind.i64)))):Int)
def j8 (p0:(List Int)) (p1:Int) (v9:Int) (s1:Unit):Option (Bool⊕((Unit)⊕(Unit))):=
 bC (idx p0 v9) λx12=>
 bC (bif decide (x12<0) then
 some true
 else
 some (decide (p1<=x12))) λp20=>
 bC (bif p20 then
 some true
 else
 bC (bif decide (0<v9) then
 bC (idx p0 (IntKind.i64.wrap (v9-1))) λx29=>
 some (decide (x12<=x29))
 else
 some false) λp32=>
 some p32) λp33=>
 bif p33 then
  some (.inl (false:Bool))
 else
  some (.inr (.inr ()))
def js (p0:(List Int)) (p1:Int):Option (Bool):=
 bC (cntM (j8 p0 p1) p0.length 0 ()) λq2=>
 aft (λr=>some r) (λs3=>
  some (true:Bool)) q2
def kj (p0:Int):Option (Bool):=
 bC (bif (p0==2) then
 some true
 else
 some (p0==3)) λp8=>
 bC (bif p8 then
 some true
 else
 some (p0==7)) λp12=>
 some (p12:Bool)
def jH (p0:Sig) (p1:Clause):Option (Bool):=
 bC (bif decide (p1.Kind<1) then
 some true
 else
 some (decide (7<p1.Kind))) λp12=>
 bC (bif p12 then
 some true
 else
 bC (c8 p0) λx17=>
 bC (js p1.A x17) λx18=>
 some (!x18)) λp20=>
 bC (bif p20 then
 some true
 else
 bC (c8 p0) λx25=>
 bC (js p1.B x25) λx26=>
 some (!x26)) λp28=>
 bif p28 then
  some (false:Bool)
 else
  bC (kj p1.Kind) λx31=>
  bC (bif x31 then
  some true
  else
  some ((p1.B.length:Int)==0)) λp37=>
  some (p37:Bool)
def ek (p0:Clause) (c0:Sig):Option (Bool):=
 bC (jH c0 p0) λx6=>
 some ((!x6):Bool)
def bS (p0:(List Clause)) (c1_0:Sig) (v8:Int) (s1:Unit):Option (Int⊕((Unit)⊕(Unit))):=
 bC (idx p0 v8) λx14=>
 bC (ek x14 c1_0) λx16=>
 bif x16 then
  some (.inl (v8:Int))
 else
  some (.inr (.inr ()))
def bU (p0:(List Clause)) (c1_0:Sig):Option (Int):=
 bC (cntM (bS p0 c1_0) p0.length 0 ()) λq2=>
 aft (λr=>some r) (λs3=>
  some ((-1):Int)) q2
def bR (p0:(List Clause)) (c1_0:Sig):Option (Bool):=
 bC (bU p0 c1_0) λx7=>
 some (decide (0<=x7):Bool)
def ic (p0:Sig) (p1:(List Clause)):Option (Bool):=
 bC (bif decide ((p1.length:Int)<=3) then
 bC (bR p1 p0) λx11=>
 some (!x11)
 else
 some false) λp13=>
 some (p13:Bool)
def cM (p0:(List Int)) (p1:Int) (v8:Int) (s1:Unit):Option (Int⊕((Unit)⊕(Unit))):=
 bC (idx p0 v8) λx14=>
 bif (p1==x14) then
  some (.inl (v8:Int))
 else
  some (.inr (.inr ()))
def cz (p0:(List Int)) (p1:Int):Option (Int):=
 bC (cntM (cM p0 p1) p0.length 0 ()) λq2=>
 aft (λr=>some r) (λs3=>
  some ((-1):Int)) q2
def bO (p0:(List Int)) (p1:Int):Option (Bool):=
 bC (cz p0 p1) λx7=>
 some (decide (0<=x7):Bool)
def fY (p0:Int) (p1:Int) (p2:Bool) (p3:Bool):Option (Int):=
 bC (bif p2 then
  some (1:Int)
 else
  some (0:Int)) λq1=>
 bC (bif p3 then
  some (true,(1:Int))
 else
  some (false,(0:Int))) λq2=>
 bif (p0==1) then
  some ((if p1<(IntKind.i64.wrap (1-q1)) then(IntKind.i64.wrap (1-q1)) else p1):Int)
 else
  bif (p0==2) then
   bC (bif (p1==2) then
   some true
   else
   bC (bif (p1==1) then
   some (!q2.1)
   else
   some false) λp30=>
   some p30) λp31=>
   bif p31 then
    some (2:Int)
   else
    some (q1:Int)
  else
   bif (p0==3) then
    bif q2.1 then
     some (0:Int)
    else
     some ((if p1<q1 then q1 else p1):Int)
   else
    bif (p0==4) then
     some (q1:Int)
    else
     bif (p0==5) then
      some ((IntKind.i64.wrap (1-q1)):Int)
     else
      bif (p0==6) then
       some ((if p1<q1 then q1 else p1):Int)
      else
       some ((IntKind.i64.wrap ((IntKind.i64.wrap (2 * q1))+q2.2)):Int)
def eh (p1:Clause) (v44:Int) (v50:Int) (s10:(List Int)):Option (Det⊕(((List Int))⊕((List Int)))):=
 bC (bO p1.A v50) λx60=>
 bC (bO p1.B v50) λx64=>
 bC (fY p1.Kind v44 x60 x64) λx65=>
 bC (appS 8 s10 ([x65]:List Int)) λx67=>
 some (.inr (.inr (x67:(List Int))))
def d9 (p0:Sig) (p1:Clause) (v44:Int) (s7:(List (List Int))):Option (Det⊕(((List (List Int)))⊕((List (List Int))))):=
 bC (c8 p0) λx49=>
 bC (rng x49) λ_=>
 bC (cntM (eh p1 v44) (yG (x49-0)) 0 (([]:List Int):(List Int))) λq11=>
 aft (λr=>some (.inl r)) (λs12=>
  bC (appS 24 s7 ([s12]:List (List Int))) λx73=>
  some (.inr (.inr (x73:(List (List Int)))))) q11
def jf (p0:Sig) (p1:Clause):Option (Det):=
 bC (bif (p1.Kind==1) then
  some (true:Bool)
 else
  some ((p1.Kind==5):Bool)) λq1=>
 bC (bif q1 then
  some ((2:Int),(([1]:List Int):(List Int)),(([]:List Int):(List Int)))
 else
  bC (bif (p1.Kind==2) then
   some ((3:Int),(([2]:List Int):(List Int)),(([]:List Int):(List Int)))
  else
   bC (bif (p1.Kind==3) then
    some ((2:Int),(([1]:List Int):(List Int)),(([0]:List Int):(List Int)))
   else
    bC (bif (p1.Kind==4) then
     some ((2:Int),(([0,1]:List Int):(List Int)),(([1]:List Int):(List Int)))
    else
     bC (bif (p1.Kind==6) then
      some ((2:Int),(([0]:List Int):(List Int)),(([]:List Int):(List Int)))
     else
      some ((4:Int),(([2,3]:List Int):(List Int)),(([1,3]:List Int):(List Int)))) λq6=>
     some (q6.1,q6.2.1,q6.2.2)) λq5=>
    some (q5.1,q5.2.1,q5.2.2)) λq4=>
   some (q4.1,q4.2.1,q4.2.2)) λq3=>
  some (q3.1,q3.2.1,q3.2.2)) λq2=>
 bC (rng q2.1) λ_=>
 bC (cntM (d9 p0 p1) (yG (q2.1-0)) 0 (([]:List (List Int)):(List (List Int)))) λq8=>
 aft (λr=>some r) (λs9=>
  some ((⟨s9,([(⟨q2.2.1,q2.2.2⟩:Pair)]:List Pair)⟩:Det):Det)) q8
def ck (p0:(List (Int×Int))) (p1:(Int×Int)) (v8:Int) (s1:Unit):Option (Int⊕((Unit)⊕(Unit))):=
 bC (idx p0 v8) λx14=>
 bif ((p1.1==x14.1)&&(p1.2==x14.2)) then
  some (.inl (v8:Int))
 else
  some (.inr (.inr ()))
def co (p0:(List (Int×Int))) (p1:(Int×Int)):Option (Int):=
 bC (cntM (ck p0 p1) p0.length 0 ()) λq2=>
 aft (λr=>some r) (λs3=>
  some ((-1):Int)) q2
def ec (p1:Det) (s1:(List (Int×Int))×Int×(List (List Int))) (x47:(List Int)) (v50:Int) (s4:(List (Int×Int))×(List Int)):Option ((Det×Bool)⊕(((List (Int×Int))×(List Int))⊕((List (Int×Int))×(List Int)))):=
 bC (idx x47 v50) λx53=>
 bC (idx s4.1 s1.2.1) λx60=>
 bC (idx p1.Next x60.2) λx63=>
 bC (idx x63 v50) λx66=>
 bC (co s4.1 (x53,x66)) λx71=>
 bC (bif decide (x71<0) then
  bC (appS 16 s4.1 ([(x53,x66)]:List (Int×Int))) λx79=>
  some (x79,((s4.1.length:Int):Int))
 else
  some (s4.1,x71)) λq7=>
 bC (appS 8 s4.2 ([q7.2]:List Int)) λx83=>
 some (.inr (.inr (q7.1,x83)))
def fv (p0:Det) (p1:Det) (s1:(List (Int×Int))×Int×(List (List Int))):Option ((Det×Bool)⊕(((List (Int×Int))×Int×(List (List Int)))⊕((List (Int×Int))×Int×(List (List Int))))):=
 bif decide (s1.2.1<(s1.1.length:Int)) then
  bC (idx s1.1 s1.2.1) λx44=>
  bC (idx p0.Next x44.1) λx47=>
  bC (cntM (ec p1 s1 x47) x47.length 0 (s1.1,(([]:List Int):(List Int)))) λq5=>
  aft (λr=>some (.inl r)) (λs6=>
   bif decide (48<(s6.1.length:Int)) then
    some (.inl (((⟨([]:List (List Int)),([]:List Pair)⟩:Det):Det),false))
   else
    bC (appS 24 s1.2.2 ([s6.2]:List (List Int))) λx93=>
    some (.inr (.inr (s6.1,((IntKind.i64.wrap (s1.2.1+1)):Int),x93)))) q5
 else
  some (.inr (.inl (s1.1,s1.2.1,s1.2.2)))
def ft (s3:(List (Int×Int))×Int×(List (List Int))) (v99:Int) (x109:Pair) (v114:Int) (s14:(List Int)×(List Int)):Option ((Det×Bool)⊕(((List Int)×(List Int))⊕((List Int)×(List Int)))):=
 bC (idx s3.1 v114) λx117=>
 bC (idx ([x117.1,x117.2]:List Int) v99) λx122=>
 bC (bO x109.Ask x122) λx124=>
 bC (bif x124 then
  bC (appS 8 s14.1 ([v114]:List Int)) λx129=>
  some (x129:(List Int))
 else
  some (s14.1:(List Int))) λq17=>
 bC (idx ([x117.1,x117.2]:List Int) v99) λx134=>
 bC (bO x109.Give x134) λx136=>
 bC (bif x136 then
  bC (appS 8 s14.2 ([v114]:List Int)) λx141=>
  some (x141:(List Int))
 else
  some (s14.2:(List Int))) λq18=>
 some (.inr (.inr (q17,q18)))
def db (s3:(List (Int×Int))×Int×(List (List Int))) (v99:Int) (x102:Det) (v107:Int) (s11:(List Pair)):Option ((Det×Bool)⊕(((List Pair))⊕((List Pair)))):=
 bC (idx x102.Pairs v107) λx109=>
 bC (cntM (ft s3 v99 x109) s3.1.length 0 ((([]:List Int):(List Int)),(([]:List Int):(List Int)))) λq15=>
 aft (λr=>some (.inl r)) (λs16=>
  bC (appS 48 s11 ([(⟨s16.1,s16.2⟩:Pair)]:List Pair)) λx148=>
  some (.inr (.inr (x148:(List Pair))))) q15
def cH (p0:Det) (p1:Det) (s3:(List (Int×Int))×Int×(List (List Int))) (v99:Int) (s8:(List Pair)):Option ((Det×Bool)⊕(((List Pair))⊕((List Pair)))):=
 bC (idx ([p0,p1]:List Det) v99) λx102=>
 bC (cntM (db s3 v99 x102) x102.Pairs.length 0 (s8:(List Pair))) λq12=>
 aft (λr=>some (.inl r)) (λs13=>
  some (.inr (.inr (s13:(List Pair))))) q12
def gL (p0:Det) (p1:Det):Option (Det×Bool):=
 bif decide (4<(IntKind.i64.wrap ((p0.Pairs.length:Int)+(p1.Pairs.length:Int)))) then
  some (((⟨([]:List (List Int)),([]:List Pair)⟩:Det):Det),false)
 else
  bC (ca (fv p0 p1) (2 ^ 64) ((([(0,0)]:List (Int×Int)):(List (Int×Int))),(0:Int),(([]:List (List Int)):(List (List Int))))) λq2=>
  aft (λr=>some r) (λs3=>
   bC (cntM (cH p0 p1 s3) ([p0,p1]:List Det).length 0 (([]:List Pair):(List Pair))) λq9=>
   aft (λr=>some r) (λs10=>
    some (((⟨s3.2.2,s10⟩:Det):Det),true)) q9) q2
def ef (p0:Sig) (p1:(List Clause)) (v28:Int) (s1:(List (List Int))×(List Pair)):Option ((Det×Bool)⊕(((List (List Int))×(List Pair))⊕((List (List Int))×(List Pair)))):=
 bC (idx p1 v28) λx30=>
 bC (jf p0 x30) λx36=>
 bC (gL (⟨s1.1,s1.2⟩:Det) x36) λx37=>
 bif (!x37.2) then
  some (.inl (((⟨([]:List (List Int)),([]:List Pair)⟩:Det):Det),false))
 else
  some (.inr (.inr (x37.1.Next,x37.1.Pairs)))
def cV (p0:Sig) (p1:(List Clause)):Option (Det×Bool):=
 bC (lw p0) λx12=>
 bC (bif (!x12) then
 some true
 else
 bC (ic p0 p1) λx17=>
 some (!x17)) λp19=>
 bif p19 then
  some (((⟨([]:List (List Int)),([]:List Pair)⟩:Det):Det),false)
 else
  bC (c8 p0) λx22=>
  bC (mkS 8 x22 (0:Int)) λx23=>
  bC (cntM (ef p0 p1) p1.length 0 ((([x23]:List (List Int)):(List (List Int))),(([]:List Pair):(List Pair)))) λq2=>
  aft (λr=>some r) (λs3=>
   some (((⟨s3.1,s3.2⟩:Det):Det),true)) q2
def dL (p0:Sig):Option (Int):=
 bC (nn p0.In) λ_z5=>
 some ((IntKind.i64.wrap (1 * 2 ^ (min (yG p0.In) (IntKind.bits IntKind.i64)))):Int)
def cu (p0:(List Int)):Option (List Int):=
 if 0<p0.length/\p0.length<4611686018427387904 then some (p0.mergeSort λx y=>decide (x<=y)) else if p0.length=0 then some p0 else none
def cT (p0:(List Int)):Option (List Int):=
 if 0<p0.length/\p0.length<4611686018427387904 then some (Go.Lib.compact p0) else none
def lK (p0:Pair):Option (Pair):=
 bC (appS 8 ([]:List Int) p0.Ask) λx6=>
 bC (appS 8 ([]:List Int) p0.Give) λx10=>
 some ((⟨x6,x10⟩:Pair):Pair)
def ed (p1:Det) (x24:Int) (v26:Int) (v31:Int) (s4:(List Int)):Option ((Arena×(List Pair))⊕(((List Int))⊕((List Int)))):=
 bC (appS 8 s4 ([(IntKind.i64.wrap ((IntKind.i64.wrap ((p1.Next.length:Int)+(IntKind.i64.wrap (v26 * x24))))+v31))]:List Int)) λx43=>
 some (.inr (.inr (x43:(List Int))))
def ey (p1:Det) (x24:Int) (v26:Int) (s1:(List Int)×(List (List Int))):Option ((Arena×(List Pair))⊕(((List Int)×(List (List Int)))⊕((List Int)×(List (List Int))))):=
 bC (rng x24) λ_=>
 bC (cntM (ed p1 x24 v26) (yG (x24-0)) 0 (([]:List Int):(List Int))) λq5=>
 aft (λr=>some (.inl r)) (λs6=>
  bC (appS 8 s1.1 ([1]:List Int)) λx48=>
  bC (appS 24 s1.2 ([s6]:List (List Int))) λx54=>
  some (.inr (.inr (x48,x54)))) q5
def d7 (p1:Det) (x24:Int) (v58:Int) (v62:Int) (v69:Int) (s13:(List Int)):Option ((Arena×(List Pair))⊕(((List Int))⊕((List Int)))):=
 bC (idx p1.Next v58) λx76=>
 bC (idx x76 (IntKind.i64.wrap ((IntKind.i64.wrap (v69 * x24))+v62))) λx83=>
 bC (appS 8 s13 ([x83]:List Int)) λx86=>
 some (.inr (.inr (x86:(List Int))))
def dY (p0:Sig) (p1:Det) (x24:Int) (v58:Int) (v62:Int) (s10:(List Int)×(List (List Int))):Option ((Arena×(List Pair))⊕(((List Int)×(List (List Int)))⊕((List Int)×(List (List Int))))):=
 bC (nn p0.Out) λ_z68=>
 bC (rng (IntKind.i64.wrap (1 * 2 ^ (min (yG p0.Out) (IntKind.bits IntKind.i64))))) λ_=>
 bC (cntM (d7 p1 x24 v58 v62) (yG ((IntKind.i64.wrap (1 * 2 ^ (min (yG p0.Out) (IntKind.bits IntKind.i64))))-0)) 0 (([]:List Int):(List Int))) λq14=>
 aft (λr=>some (.inl r)) (λs15=>
  bC (cu s15) λx89=>
  bC (appS 8 s10.1 ([0]:List Int)) λx93=>
  bC (cT x89) λx98=>
  bC (appS 24 s10.2 ([x98]:List (List Int))) λx100=>
  some (.inr (.inr (x93,x100)))) q14
def dZ (p0:Sig) (p1:Det) (x24:Int) (v58:Int) (s7:(List Int)×(List (List Int))):Option ((Arena×(List Pair))⊕(((List Int)×(List (List Int)))⊕((List Int)×(List (List Int))))):=
 bC (rng x24) λ_=>
 bC (cntM (dY p0 p1 x24 v58) (yG (x24-0)) 0 (s7.1,s7.2)) λq11=>
 aft (λr=>some (.inl r)) (λs12=>
  some (.inr (.inr (s12.1,s12.2)))) q11
def dG (p1:Det) (v108:Int) (s16:(List Pair)):Option ((Arena×(List Pair))⊕(((List Pair))⊕((List Pair)))):=
 bC (idx p1.Pairs v108) λx110=>
 bC (lK x110) λx114=>
 bC (appS 48 s16 ([x114]:List Pair)) λx116=>
 some (.inr (.inr (x116:(List Pair))))
def eF (p0:Sig) (p1:Det):Option (Arena×(List Pair)):=
 bC (dL p0) λx24=>
 bC (cntM (ey p1 x24) p1.Next.length 0 ((([]:List Int):(List Int)),(([]:List (List Int)):(List (List Int))))) λq2=>
 aft (λr=>some r) (λs3=>
  bC (cntM (dZ p0 p1 x24) p1.Next.length 0 (s3.1,s3.2)) λq8=>
  aft (λr=>some r) (λs9=>
   bC (cntM (dG p1) p1.Pairs.length 0 (([]:List Pair):(List Pair))) λq17=>
   aft (λr=>some r) (λs18=>
    some (((⟨s9.1,s9.2⟩:Arena):Arena),s18)) q17) q8) q2
def eQ (p0:(List Pair)) (p1:(List Int)) (p2:Int) (v15:Int) (s1:(List Int)×(List Int)):Option ((List Int)⊕(((List Int)×(List Int))⊕((List Int)×(List Int)))):=
 bC (idx p1 v15) λx17=>
 bC (idx p0 x17) λx21=>
 bC (bO x21.Give p2) λx25=>
 bC (bif x25 then
  bC (appS 8 s1.1 ([x17]:List Int)) λx29=>
  some (x29,s1.2)
 else
  bC (appS 8 s1.2 ([x17]:List Int)) λx33=>
  some (s1.1,x33)) λq4=>
 some (.inr (.inr (q4.1,q4.2)))
def ik (p0:(List Pair)) (p1:(List Int)) (p2:Int):Option ((List Int)):=
 bC (cntM (eQ p0 p1 p2) p1.length 0 ((([]:List Int):(List Int)),(([]:List Int):(List Int)))) λq2=>
 aft (λr=>some r) (λs3=>
  bC (appS 8 s3.1 s3.2) λx37=>
  some (x37:(List Int))) q2
def gT (p0:Place) (c0:(List Pair)):Option ((List Int)):=
 bC (ik c0 p0.Record p0.At) λx9=>
 some (x9:(List Int))
def cL (p0:(List Int)) (p1:(List Int)) (v13:Int) (s1:Unit):Option (Bool⊕((Unit)⊕(Unit))):=
 bC (idx p0 v13) λx18=>
 bC (idx p1 v13) λx22=>
 bif (x18 !=x22) then
  some (.inl (false:Bool))
 else
  some (.inr (.inr ()))
def c7 (p0:(List Int)) (p1:(List Int)):Option (Bool):=
 bif ((p0.length:Int) !=(p1.length:Int)) then
  some (false:Bool)
 else
  bC (cntM (cL p0 p1) p0.length 0 ()) λq2=>
  aft (λr=>some r) (λs3=>
   some (true:Bool)) q2
def ji (p0:Place) (c0:Int) (c1:(List Int)):Option (Bool):=
 bC (bif (p0.At==c0) then
 bC (c7 p0.Record c1) λx13=>
 some x13
 else
 some false) λp14=>
 some (p14:Bool)
def bW (p0:(List Place)) (c1_0:Int) (c1_1:(List Int)) (v8:Int) (s1:Unit):Option (Int⊕((Unit)⊕(Unit))):=
 bC (idx p0 v8) λx14=>
 bC (ji x14 c1_0 c1_1) λx16=>
 bif x16 then
  some (.inl (v8:Int))
 else
  some (.inr (.inr ()))
def bZ (p0:(List Place)) (c1_0:Int) (c1_1:(List Int)):Option (Int):=
 bC (cntM (bW p0 c1_0 c1_1) p0.length 0 ()) λq2=>
 aft (λr=>some r) (λs3=>
  some ((-1):Int)) q2
def kT (p0:(List Place)) (p1:Int) (p2:(List Int)):Option (Int):=
 bC (bZ p0 p1 p2) λx9=>
 some (x9:Int)
def eR (p0:(List Pair)) (p1:(List Int)) (p2:Int) (v13:Int) (s1:Int×Int):Option (Int⊕((Int×Int)⊕(Int×Int))):=
 bC (idx p1 v13) λx16=>
 bC (idx p0 x16) λx20=>
 bC (bO x20.Ask p2) λx24=>
 bC (bif x24 then
  some (v13:Int)
 else
  some (s1.1:Int)) λq4=>
 bC (idx p0 x16) λx28=>
 bC (bO x28.Give p2) λx32=>
 bC (bif x32 then
  some (v13:Int)
 else
  some (s1.2:Int)) λq5=>
 some (.inr (.inr (q4,q5)))
def ip (p0:(List Pair)) (p1:(List Int)) (p2:Int):Option (Int):=
 bC (cntM (eR p0 p1 p2) p1.length 0 (((-1):Int),((-1):Int))) λq2=>
 aft (λr=>some r) (λs3=>
  bC (bif decide (s3.1<0) then
  some (decide (s3.2<0))
  else
  some false) λp41=>
  bif p41 then
   some (0:Int)
  else
   bif decide (s3.2<s3.1) then
    some ((IntKind.i64.wrap ((IntKind.i64.wrap (2 * s3.1))+1)):Int)
   else
    some ((IntKind.i64.wrap ((IntKind.i64.wrap (2 * s3.2))+2)):Int)) q2
def gU (p0:Place) (c0:(List Pair)):Option (Int):=
 bC (ip c0 p0.Record p0.At) λx9=>
 some (x9:Int)
def jw (p0:Parity) (p1:Int) (p2:Int) (p3:(List Int)):Option (Parity):=
 bC (appS 8 p0.Arena.Owner ([p1]:List Int)) λx14=>
 bC (appS 24 p0.Arena.Next ([p3]:List (List Int))) λx22=>
 bC (appS 8 p0.Prio ([p2]:List Int)) λx29=>
 some ((⟨(⟨x14,x22⟩:Arena),x29⟩:Parity):Parity)
def bV (x35:(List Int)) (x41:(List Int)) (v44:Int) (s4:(List Place)×(List Int)):Option ((Parity×(List Place)×Bool)⊕(((List Place)×(List Int))⊕((List Place)×(List Int)))):=
 bC (idx x41 v44) λx46=>
 bC (kT s4.1 x46 x35) λx51=>
 bC (bif decide (x51<0) then
  bC (appS 8 ([]:List Int) x35) λx60=>
  bC (appS 32 s4.1 ([(⟨x46,x60⟩:Place)]:List Place)) λx63=>
  some (x63,((s4.1.length:Int):Int))
 else
  some (s4.1,x51)) λq7=>
 bC (appS 8 s4.2 ([q7.2]:List Int)) λx67=>
 some (.inr (.inr (q7.1,x67)))
def bN (p0:Arena) (c2_0:(List Pair)) (s1:(List Place)×Int×(List Int)×(List (List Int))×(List Int)):Option ((Parity×(List Place)×Bool)⊕(((List Place)×Int×(List Int)×(List (List Int))×(List Int))⊕((List Place)×Int×(List Int)×(List (List Int))×(List Int)))):=
 bif decide (s1.2.1<(s1.1.length:Int)) then
  bC (idx s1.1 s1.2.1) λx31=>
  bC (gT x31 c2_0) λx35=>
  bC (idx p0.Next x31.At) λx41=>
  bC (cntM (bV x35 x41) x41.length 0 (s1.1,(([]:List Int):(List Int)))) λq5=>
  aft (λr=>some (.inl r)) (λs6=>
   bif decide (256<(s6.1.length:Int)) then
    some (.inl (((⟨(⟨([]:List Int),([]:List (List Int))⟩:Arena),([]:List Int)⟩:Parity):Parity),(([]:List Place):(List Place)),false))
   else
    bC (cu s6.2) λx74=>
    bC (idx p0.Owner x31.At) λx80=>
    bC (gU x31 c2_0) λx84=>
    bC (jw (⟨(⟨s1.2.2.1,s1.2.2.2.1⟩:Arena),s1.2.2.2.2⟩:Parity) x80 x84 x74) λx86=>
    some (.inr (.inr (s6.1,((IntKind.i64.wrap (s1.2.1+1)):Int),x86.Arena.Owner,x86.Arena.Next,x86.Prio)))) q5
 else
  some (.inr (.inl (s1.1,s1.2.1,s1.2.2.1,s1.2.2.2.1,s1.2.2.2.2)))
def ci (p0:Arena) (p1:Place) (c2_0:(List Pair)):Option (Parity×(List Place)×Bool):=
 bC (ca (bN p0 c2_0) (2 ^ 64) ((([p1]:List Place):(List Place)),(0:Int),(([]:List Int):(List Int)),(([]:List (List Int)):(List (List Int))),(([]:List Int):(List Int)))) λq2=>
 aft (λr=>some r) (λs3=>
  some (((⟨(⟨s3.2.2.1,s3.2.2.2.1⟩:Arena),s3.2.2.2.2⟩:Parity):Parity),s3.1,true)) q2
def iN  (v15:Int) (s1:(List Int)):Option ((Parity×(List Place)×Bool)⊕(((List Int))⊕((List Int)))):=
 bC (appS 8 s1 ([v15]:List Int)) λx22=>
 some (.inr (.inr (x22:(List Int))))
def dy (p0:Arena) (p1:(List Pair)) (p2:Int):Option (Parity×(List Place)×Bool):=
 bC (cntM iN p1.length 0 (([]:List Int):(List Int))) λq2=>
 aft (λr=>some r) (λs3=>
  bC (ci p0 (⟨p2,s3⟩:Place) p1) λx29=>
  some (x29.1,x29.2.1,x29.2.2)) q2
def mf (p0:Arena):Option (Int):=
 some ((p0.Owner.length:Int):Int)
def kd  (v4:Int) (s1:(List Int)):Option ((List Int)⊕(((List Int))⊕((List Int)))):=
 bC (appS 8 s1 ([v4]:List Int)) λx20=>
 some (.inr (.inr (x20:(List Int))))
def pa (p0:Int):Option ((List Int)):=
 bC (bif decide (p0<0) then
 some true
 else
 some (decide (256<p0))) λp10=>
 bif p10 then
  some (([]:List Int):(List Int))
 else
  bC (rng p0) λ_=>
  bC (cntM kd (yG (p0-0)) 0 (([]:List Int):(List Int))) λq2=>
  aft (λr=>some r) (λs3=>
   some (s3:(List Int))) q2
def nO (p0:Arena):Option ((List Int)):=
 bC (mf p0) λx4=>
 bC (pa x4) λx5=>
 some (x5:(List Int))
def ig (v15:Int) (x18:(List Int)) (v22:Int) (s4:(List (List Int))):Option ((List (List Int))⊕(((List (List Int)))⊕((List (List Int))))):=
 bC (idx x18 v22) λx24=>
 bC (idx s4 x24) λx30=>
 bC (appS 8 x30 ([v15]:List Int)) λx34=>
 bC (idx s4 x24) λx35=>
 bC (setI s4 x24 (x34:(List Int))) λy117=>
 some (.inr (.inr (y117:(List (List Int)))))
def iq (p0:Arena) (v15:Int) (s1:(List (List Int))):Option ((List (List Int))⊕(((List (List Int)))⊕((List (List Int))))):=
 bC (idx p0.Next v15) λx18=>
 bC (cntM (ig v15 x18) x18.length 0 (s1:(List (List Int)))) λq5=>
 aft (λr=>some (.inl r)) (λs6=>
  some (.inr (.inr (s6:(List (List Int)))))) q5
def lb (p0:Arena):Option ((List (List Int))):=
 bC (mkS 24 (p0.Owner.length:Int) (([]:List Int):(List Int))) λx11=>
 bC (cntM (iq p0) p0.Next.length 0 (x11:(List (List Int)))) λq2=>
 aft (λr=>some r) (λs3=>
  some (s3:(List (List Int)))) q2
def jm (p1:(List Int)) (v14:Int) (s1:(List Bool)):Option ((List Bool)⊕(((List Bool))⊕((List Bool)))):=
 bC (idx p1 v14) λx16=>
 bC (idx s1 x16) λx20=>
 bC (setI s1 x16 true) λy120=>
 some (.inr (.inr (y120:(List Bool))))
def lY (p0:Arena) (p1:(List Int)):Option ((List Bool)):=
 bC (mkS 1 (p0.Owner.length:Int) (false:Bool)) λx11=>
 bC (cntM (jm p1) p1.length 0 (x11:(List Bool))) λq2=>
 aft (λr=>some r) (λs3=>
  some (s3:(List Bool))) q2
def jh (p0:(List Bool)) (v9:Int) (s1:(List Int)):Option ((List Int)⊕(((List Int))⊕((List Int)))):=
 bC (idx p0 v9) λx12=>
 bC (bif x12 then
  bC (appS 8 s1 ([v9]:List Int)) λx18=>
  some (x18:(List Int))
 else
  some (s1:(List Int))) λq4=>
 some (.inr (.inr (q4:(List Int))))
def gr (p0:(List Bool)):Option ((List Int)):=
 bC (cntM (jh p0) p0.length 0 (([]:List Int):(List Int))) λq2=>
 aft (λr=>some r) (λs3=>
  some (s3:(List Int))) q2
def jI (p0:Parity) (p1:(List Int)) (v10:Int) (s1:Int):Option (Int⊕((Int)⊕(Int))):=
 bC (idx p1 v10) λx12=>
 bC (idx p0.Prio x12) λx18=>
 some (.inr (.inr ((if s1<x18 then x18 else s1):Int)))
def n6 (p0:Parity) (p1:(List Int)):Option (Int):=
 bC (cntM (jI p0 p1) p1.length 0 ((-1):Int)) λq2=>
 aft (λr=>some r) (λs3=>
  some (s3:Int)) q2
def cO (p2:(List Bool)) (x43:Int) (x79:(List Int)) (v82:Int) (s8:(List Int)):Option ((List Bool)⊕(((List Int))⊕((List Int)))):=
 bC (idx x79 v82) λx84=>
 bC (idx p2 x84) λx88=>
 bC (bif x88 then
  bC (idx s8 x43) λx92=>
  bC (idx s8 x43) λx95=>
  bC (setI s8 x43 (IntKind.i64.wrap (x92+1))) λy133=>
  some (y133:(List Int))
 else
  some (s8:(List Int))) λq11=>
 some (.inr (.inr (q11:(List Int))))
def dt (p0:solver) (p1:Int) (p2:(List Bool)) (x38:(List Int)) (v41:Int) (s4:(List Int)×(List Bool)×(List Int)):Option ((List Bool)⊕(((List Int)×(List Bool)×(List Int))⊕((List Int)×(List Bool)×(List Int)))):=
 bC (idx x38 v41) λx43=>
 bC (idx s4.2.1 x43) λx47=>
 bC (bif x47 then
 some true
 else
 bC (idx p2 x43) λx52=>
 some (!x52)) λp55=>
 bif p55 then
  some (.inr (.inr (s4.1,s4.2.1,s4.2.2)))
 else
  bC (idx p0.game.Arena.Owner x43) λx63=>
  bif (x63 !=p1) then
   bC (idx s4.2.2 x43) λx69=>
   bC (bif (x69==0) then
    bC (idx p0.game.Arena.Next x43) λx79=>
    bC (cntM (cO p2 x43 x79) x79.length 0 (s4.2.2:(List Int))) λq9=>
    aft (λr=>none) (λs10=>
     some (s10:(List Int))) q9
   else
    some (s4.2.2:(List Int))) λq7=>
   bC (idx q7 x43) λx99=>
   bC (idx q7 x43) λx102=>
   bC (setI q7 x43 (IntKind.i64.wrap (x99-1))) λy134=>
   bC (idx y134 x43) λx105=>
   bif decide (0<x105) then
    some (.inr (.inr (s4.1,s4.2.1,y134)))
   else
    bC (idx s4.2.1 x43) λx110=>
    bC (setI s4.2.1 x43 true) λy135=>
    bC (appS 8 s4.1 ([x43]:List Int)) λx114=>
    some (.inr (.inr (x114,y135,y134)))
  else
   bC (idx s4.2.1 x43) λx110=>
   bC (setI s4.2.1 x43 true) λy135=>
   bC (appS 8 s4.1 ([x43]:List Int)) λx114=>
   some (.inr (.inr (x114,y135,s4.2.2)))
def ea (p0:solver) (p1:Int) (p2:(List Bool)) (s1:(List Int)×(List Bool)×(List Int)):Option ((List Bool)⊕(((List Int)×(List Bool)×(List Int))⊕((List Int)×(List Bool)×(List Int)))):=
 bif decide (0<(s1.1.length:Int)) then
  bC (idx s1.1 0) λx29=>
  bC (subS s1.1 1 (s1.1.length:Int)) λx32=>
  bC (idx p0.preds x29) λx38=>
  bC (cntM (dt p0 p1 p2 x38) x38.length 0 (x32,s1.2.1,s1.2.2)) λq5=>
  aft (λr=>some (.inl r)) (λs6=>
   some (.inr (.inr (s6.1,s6.2.1,s6.2.2)))) q5
 else
  some (.inr (.inl (s1.1,s1.2.1,s1.2.2)))
def fa (p0:solver) (p1:Int) (p2:(List Bool)) (p3:(List Bool)):Option ((List Bool)):=
 bC (appS 1 ([]:List Bool) p3) λx19=>
 bC (mkS 8 (p2.length:Int) (0:Int)) λx22=>
 bC (gr p3) λx24=>
 bC (ca (ea p0 p1 p2) (2 ^ 64) (x24,x19,x22)) λq2=>
 aft (λr=>some r) (λs3=>
  some (s3.2.1:(List Bool))) q2
def gW (p0:(List Bool)) (p1:(List Bool)) (v12:Int) (s1:(List Bool)):Option ((List Bool)⊕(((List Bool))⊕((List Bool)))):=
 bC (idx p0 v12) λx19=>
 bC (bif x19 then
 bC (idx p1 v12) λx24=>
 some (!x24)
 else
 some false) λp27=>
 bC (idx s1 v12) λx28=>
 bC (setI s1 v12 p27) λy139=>
 some (.inr (.inr (y139:(List Bool))))
def eU (p0:(List Bool)) (p1:(List Bool)):Option ((List Bool)):=
 bC (mkS 1 (p0.length:Int) (false:Bool)) λx9=>
 bC (cntM (gW p0 p1) p0.length 0 (x9:(List Bool))) λq2=>
 aft (λr=>some r) (λs3=>
  some (s3:(List Bool))) q2
def cC (p0:(List Bool)) (p1:Bool) (v8:Int) (s1:Unit):Option (Int⊕((Unit)⊕(Unit))):=
 bC (idx p0 v8) λx14=>
 bif (p1==x14) then
  some (.inl (v8:Int))
 else
  some (.inr (.inr ()))
def dj (p0:(List Bool)) (p1:Bool):Option (Int):=
 bC (cntM (cC p0 p1) p0.length 0 ()) λq2=>
 aft (λr=>some r) (λs3=>
  some ((-1):Int)) q2
def cn (p0:(List Bool)) (p1:Bool):Option (Bool):=
 bC (dj p0 p1) λx7=>
 some (decide (0<=x7):Bool)
def eT (p0:solver) (x27:Int) (s1:(List Bool)) (v38:Int) (s4:(List Bool)):Option (((List Bool)×Int)⊕(((List Bool))⊕((List Bool)))):=
 bC (idx s1 v38) λx45=>
 bC (bif x45 then
 bC (idx p0.game.Prio v38) λx54=>
 some (x54==x27)
 else
 some false) λp58=>
 bC (idx s4 v38) λx59=>
 bC (setI s4 v38 p58) λy128=>
 some (.inr (.inr (y128:(List Bool))))
def eS (rc:solver->(List Bool)->Option ((List Bool)×Int)) (p0:solver) (p1:(List Bool)) (x27:Int) (s1:(List Bool)):Option (((List Bool)×Int)⊕(((List Bool))⊕((List Bool)))):=
 bC (mkS 1 (p1.length:Int) (false:Bool)) λx35=>
 bC (cntM (eT p0 x27 s1) x35.length 0 (x35:(List Bool))) λq5=>
 aft (λr=>some (.inl r)) (λs6=>
  bC (fa p0 (Int.tmod x27 2) s1 s6) λx66=>
  bC (eU s1 x66) λx67=>
  bC (rc p0 x67) λx71=>
  bC (bif (x71.2==(Int.tmod x27 2)) then
   bC (eU x67 x71.1) λx80=>
   some (x80:(List Bool))
  else
   some (x71.1:(List Bool))) λq7=>
  bC (cn q7 true) λx82=>
  bif (!x82) then
   some (.inl (s1,((Int.tmod x27 2):Int)))
  else
   bC (fa p0 (IntKind.i64.wrap (1-(Int.tmod x27 2))) s1 q7) λx92=>
   bC (eU s1 x92) λx93=>
   bC (cn x93 true) λx95=>
   bif (!x95) then
    some (.inl (x93,((Int.tmod x27 2):Int)))
   else
    some (.inr (.inr (x93:(List Bool))))) q5
def dx (rc:solver->(List Bool)->Option ((List Bool)×Int)) (p0:solver) (p1:(List Bool)):Option ((List Bool)×Int):=
 bC (gr p1) λx17=>
 bif ((x17.length:Int)==0) then
  some (p1,(0:Int))
 else
  bC (n6 p0.game x17) λx27=>
  bC (appS 1 ([]:List Bool) p1) λx32=>
  bC (ca (eS rc p0 p1 x27) (2 ^ 64) (x32:(List Bool))) λq2=>
  aft (λr=>some r) (λs3=>
   none) q2
def dk:Nat->solver->(List Bool)->Option ((List Bool)×Int)
 | 0=>λ_ _=>none
 | n+1=>dx (dk n)
def mL (p0:Parity) (p1:(List Int)):Option ((List Int)×(List Int)):=
 bC (lb p0.Arena) λx13=>
 bC (lY p0.Arena p1) λx19=>
 bC (dk (2 ^ 64) (⟨p0,x13⟩:solver) x19) λx23=>
 bif (x23.2==0) then
  bC (gr x23.1) λx29=>
  bC (eU x19 x23.1) λx32=>
  bC (gr x32) λx33=>
  some (x29,x33)
 else
  bC (eU x19 x23.1) λx36=>
  bC (gr x36) λx37=>
  bC (gr x23.1) λx39=>
  some (x37,x39)
def g6 (x17:(List Int)×(List Int)) (v22:Int) (s1:(List Int)):Option ((List Int)⊕(((List Int))⊕((List Int)))):=
 bC (idx x17.2 v22) λx24=>
 bC (idx s1 x24) λx28=>
 bC (setI s1 x24 1) λy153=>
 some (.inr (.inr (y153:(List Int))))
def er (p0:Parity):Option ((List Int)):=
 bC (mkS 8 (p0.Prio.length:Int) (0:Int)) λx11=>
 bC (nO p0.Arena) λx16=>
 bC (mL p0 x16) λx17=>
 bC (cntM (g6 x17) x17.2.length 0 (x11:(List Int))) λq2=>
 aft (λr=>some r) (λs3=>
  some (s3:(List Int))) q2
def gQ (p0:Arena) (v25:Int) (s1:Unit):Option (Bool⊕((Unit)⊕(Unit))):=
 bC (idx p0.Next v25) λx28=>
 bC (idx p0.Owner v25) λx33=>
 bC (bif decide (x33<0) then
 some true
 else
 bC (idx p0.Owner v25) λx40=>
 some (decide (1<x40))) λp43=>
 bC (bif p43 then
 some true
 else
 some (decide ((x28.length:Int)<1))) λp48=>
 bC (bif p48 then
 some true
 else
 some (decide (16<(x28.length:Int)))) λp53=>
 bC (bif p53 then
 some true
 else
 bC (js x28 (p0.Owner.length:Int)) λx57=>
 some (!x57)) λp59=>
 bif p59 then
  some (.inl (false:Bool))
 else
  some (.inr (.inr ()))
def jC (p0:Arena):Option (Bool):=
 bC (bif decide ((p0.Owner.length:Int)<1) then
 some true
 else
 some (decide (256<(p0.Owner.length:Int)))) λp14=>
 bC (bif p14 then
 some true
 else
 some ((p0.Next.length:Int) !=(p0.Owner.length:Int))) λp21=>
 bif p21 then
  some (false:Bool)
 else
  bC (cntM (gQ p0) p0.Next.length 0 ()) λq2=>
  aft (λr=>some r) (λs3=>
   some (true:Bool)) q2
def gl (p0:Parity) (v22:Int) (s1:Unit):Option (Bool⊕((Unit)⊕(Unit))):=
 bC (idx p0.Prio v22) λx24=>
 bC (bif decide (x24<0) then
 some true
 else
 some (decide (40<x24))) λp31=>
 bif p31 then
  some (.inl (false:Bool))
 else
  some (.inr (.inr ()))
def j9 (p0:Parity):Option (Bool):=
 bC (jC p0.Arena) λx7=>
 bC (bif (!x7) then
 some true
 else
 some ((p0.Prio.length:Int) !=(p0.Arena.Owner.length:Int))) λp18=>
 bif p18 then
  some (false:Bool)
 else
  bC (cntM (gl p0) p0.Prio.length 0 ()) λq2=>
  aft (λr=>some r) (λs3=>
   some (true:Bool)) q2
def kn  (v11:Int) (s1:(List Int)):Option ((List Int)⊕(((List Int))⊕((List Int)))):=
 bC (idx s1 v11) λx16=>
 bC (setI s1 v11 (-1)) λy160=>
 some (.inr (.inr (y160:(List Int))))
def ml (p0:Arena):Option ((List Int)):=
 bC (mkS 8 (p0.Owner.length:Int) (0:Int)) λx8=>
 bC (cntM kn x8.length 0 (x8:(List Int))) λq2=>
 aft (λr=>some r) (λs3=>
  some (s3:(List Int))) q2
def go (p0:Answer) (p1:Int) (v16:Int) (s1:(List Int)):Option ((List Int)⊕(((List Int))⊕((List Int)))):=
 bC (idx p0.Won v16) λx19=>
 bC (bif (x19==p1) then
  bC (appS 8 s1 ([v16]:List Int)) λx27=>
  some (x27:(List Int))
 else
  some (s1:(List Int))) λq4=>
 some (.inr (.inr (q4:(List Int))))
def jQ (p0:Answer) (p1:Int):Option ((List Int)):=
 bif decide (256<(p0.Won.length:Int)) then
  some (([]:List Int):(List Int))
 else
  bC (cntM (go p0 p1) p0.Won.length 0 (([]:List Int):(List Int))) λq2=>
  aft (λr=>some r) (λs3=>
   some (s3:(List Int))) q2
def fo (p0:(List (List Int))) (v9:Int) (s1:(List (List Int))):Option ((List (List Int))⊕(((List (List Int)))⊕((List (List Int))))):=
 bC (idx p0 v9) λx11=>
 bC (appS 8 ([]:List Int) x11) λx16=>
 bC (appS 24 s1 ([x16]:List (List Int))) λx18=>
 some (.inr (.inr (x18:(List (List Int)))))
def kh (p0:(List (List Int))):Option ((List (List Int))):=
 bC (cntM (fo p0) p0.length 0 (([]:List (List Int)):(List (List Int)))) λq2=>
 aft (λr=>some r) (λs3=>
  some (s3:(List (List Int)))) q2
def jn (p0:Arena):Option (Arena):=
 bC (appS 8 ([]:List Int) p0.Owner) λx6=>
 bC (kh p0.Next) λx9=>
 some ((⟨x6,x9⟩:Arena):Arena)
def iu (p1:(List Int)) (v12:Int) (s1:(List (List Int))):Option (Arena⊕(((List (List Int)))⊕((List (List Int))))):=
 bC (idx p1 v12) λx15=>
 bC (bif decide (0<=x15) then
  bC (idx s1 v12) λx24=>
  bC (setI s1 v12 (([x15]:List Int):(List Int))) λy177=>
  some (y177:(List (List Int)))
 else
  some (s1:(List (List Int)))) λq4=>
 some (.inr (.inr (q4:(List (List Int)))))
def kJ (p0:Arena) (p1:(List Int)):Option (Arena):=
 bC (jn p0) λx9=>
 bC (cntM (iu p1) p1.length 0 (x9.Next:(List (List Int)))) λq2=>
 aft (λr=>some r) (λs3=>
  some ((⟨x9.Owner,s3⟩:Arena):Arena)) q2
def mw (p0:Parity) (p1:(List Int)):Option (Parity):=
 bC (kJ p0.Arena p1) λx8=>
 bC (appS 8 ([]:List Int) p0.Prio) λx12=>
 some ((⟨(⟨x8.Owner,x8.Next⟩:Arena),x12⟩:Parity):Parity)
def eV (p0:Parity) (p2:(List Int)) (v19:Int) (x46:(List Int)) (x51:(List Int)) (v54:Int) (s4:(List Int)):Option (Answer⊕(((List Int))⊕((List Int)))):=
 bC (idx x51 v54) λx56=>
 bC (idx p2 x56) λx60=>
 bC (idx p2 v19) λx64=>
 bif (x60 !=x64) then
  some (.inr (.inr (s4:(List Int))))
 else
  bC (idx s4 v19) λx70=>
  bC (setI s4 v19 x56) λy167=>
  bC (mw p0 y167) λx74=>
  bC (mL x74 x46) λx76=>
  bC (idx p2 v19) λx81=>
  bC (bif (x81==0) then
  some ((x76.2.length:Int)==0)
  else
  some false) λp88=>
  bC (bif p88 then
  some true
  else
  bC (idx p2 v19) λx92=>
  bC (bif (x92==1) then
  some ((x76.1.length:Int)==0)
  else
  some false) λp99=>
  some p99) λp100=>
  bif p100 then
   some (.inr (.inl (y167:(List Int))))
  else
   bC (idx y167 v19) λx103=>
   bC (setI y167 v19 (-1)) λy180=>
   some (.inr (.inr (y180:(List Int))))
def gj (p0:Parity) (p2:(List Int)) (v19:Int) (s1:(List Int)):Option (Answer⊕(((List Int))⊕((List Int)))):=
 bC (idx p2 v19) λx30=>
 bC (idx p0.Arena.Owner v19) λx26=>
 bC (bif (x26 !=x30) then
 some true
 else
 bC (idx s1 v19) λx36=>
 some (decide (0<=x36))) λp39=>
 bif p39 then
  some (.inr (.inr (s1:(List Int))))
 else
  bC (idx p2 v19) λx44=>
  bC (jQ (⟨p2,([]:List Int)⟩:Answer) x44) λx46=>
  bC (idx p0.Arena.Next v19) λx51=>
  bC (cntM (eV p0 p2 v19 x46 x51) x51.length 0 (s1:(List Int))) λq5=>
  aft (λr=>some (.inl r)) (λs6=>
   some (.inr (.inr (s6:(List Int))))) q5
def jY (p0:Parity) (p1:(List Int)) (p2:(List Int)):Option (Answer):=
 bC (appS 8 ([]:List Int) p1) λx16=>
 bC (cntM (gj p0 p2) x16.length 0 (x16:(List Int))) λq2=>
 aft (λr=>some r) (λs3=>
  bC (appS 8 ([]:List Int) p2) λx108=>
  some ((⟨x108,s3⟩:Answer):Answer)) q2
def kE (p0:Parity):Option (Answer):=
 bC (j9 p0) λx4=>
 bif (!x4) then
  some ((⟨([]:List Int),([]:List Int)⟩:Answer):Answer)
 else
  bC (ml p0.Arena) λx10=>
  bC (er p0) λx12=>
  bC (jY p0 x10 x12) λx13=>
  some (x13:Answer)
def gn (p0:Int) (c0:(List Place)) (c1:Int) (c2:Int) (c3:Sig) (c4:Int):Option (Bool):=
 bC (idx c0 p0) λx10=>
 bC (dL c3) λx16=>
 some ((x10.At==(IntKind.i64.wrap ((IntKind.i64.wrap (c1+(IntKind.i64.wrap (c2 * x16))))+c4))):Bool)
def cd (p0:(List Int)) (c1_0:(List Place)) (c1_1:Int) (c1_2:Int) (c1_3:Sig) (c1_4:Int) (v8:Int) (s1:Unit):Option (Int⊕((Unit)⊕(Unit))):=
 bC (idx p0 v8) λx14=>
 bC (gn x14 c1_0 c1_1 c1_2 c1_3 c1_4) λx16=>
 bif x16 then
  some (.inl (v8:Int))
 else
  some (.inr (.inr ()))
def bY (p0:(List Int)) (c1_0:(List Place)) (c1_1:Int) (c1_2:Int) (c1_3:Sig) (c1_4:Int):Option (Int):=
 bC (cntM (cd p0 c1_0 c1_1 c1_2 c1_3 c1_4) p0.length 0 ()) λq2=>
 aft (λr=>some r) (λs3=>
  some ((-1):Int)) q2
def ga (p0:(List Pair)) (p1:Int) (v9:Int) (s1:Unit):Option (Bool⊕((Unit)⊕(Unit))):=
 bC (idx p0 v9) λx11=>
 bC (js x11.Ask p1) λx16=>
 bC (bif (!x16) then
 some true
 else
 bC (js x11.Give p1) λx22=>
 some (!x22)) λp24=>
 bif p24 then
  some (.inl (false:Bool))
 else
  some (.inr (.inr ()))
def iD (p0:(List Pair)) (p1:Int):Option (Bool):=
 bC (cntM (ga p0 p1) p0.length 0 ()) λq2=>
 aft (λr=>some r) (λs3=>
  some (decide ((p0.length:Int)<=4):Bool)) q2
def em (p0:Int) (c0:Int):Option (Bool):=
 bC (bif decide (p0<0) then
 some true
 else
 some (decide (c0<=p0))) λp10=>
 some (p10:Bool)
def cc (p0:(List Int)) (c1_0:Int) (v8:Int) (s1:Unit):Option (Int⊕((Unit)⊕(Unit))):=
 bC (idx p0 v8) λx14=>
 bC (em x14 c1_0) λx16=>
 bif x16 then
  some (.inl (v8:Int))
 else
  some (.inr (.inr ()))
def cg (p0:(List Int)) (c1_0:Int):Option (Int):=
 bC (cntM (cc p0 c1_0) p0.length 0 ()) λq2=>
 aft (λr=>some r) (λs3=>
  some ((-1):Int)) q2
def cb (p0:(List Int)) (c1_0:Int):Option (Bool):=
 bC (cg p0 c1_0) λx7=>
 some (decide (0<=x7):Bool)
def hU (p0:(List Int)) (p1:Int):Option (Bool):=
 bC (cb p0 p1) λx7=>
 some ((!x7):Bool)
def kc (p0:Sig) (p1:Det) (v27:Int) (s1:Unit):Option (Bool⊕((Unit)⊕(Unit))):=
 bC (idx p1.Next v27) λx29=>
 bC (c8 p0) λx34=>
 bC (bif ((x29.length:Int) !=x34) then
 some true
 else
 bC (hU x29 (p1.Next.length:Int)) λx39=>
 some (!x39)) λp41=>
 bif p41 then
  some (.inl (false:Bool))
 else
  some (.inr (.inr ()))
def mV (p0:Sig) (p1:Det):Option (Bool):=
 bC (bif decide ((p1.Next.length:Int)<1) then
 some true
 else
 some (decide (48<(p1.Next.length:Int)))) λp16=>
 bC (bif p16 then
 some true
 else
 bC (iD p1.Pairs (p1.Next.length:Int)) λx21=>
 some (!x21)) λp23=>
 bif p23 then
  some (false:Bool)
 else
  bC (cntM (kc p0 p1) p1.Next.length 0 ()) λq2=>
  aft (λr=>some r) (λs3=>
   some (true:Bool)) q2
def fh (p0:Sig) (p1:Det) (p2:Int) (p3:Int) (p4:Int) (v47:Int) (s1:(List Int)):Option ((List Int)⊕(((List Int))⊕((List Int)))):=
 bC (idx p1.Next p2) λx53=>
 bC (dL p0) λx57=>
 bC (idx x53 (IntKind.i64.wrap ((IntKind.i64.wrap (v47 * x57))+p3))) λx61=>
 bC (bif (x61==p4) then
  bC (appS 8 s1 ([v47]:List Int)) λx68=>
  some (x68:(List Int))
 else
  some (s1:(List Int))) λq4=>
 some (.inr (.inr (q4:(List Int))))
def jb (p0:Sig) (p1:Det) (p2:Int) (p3:Int) (p4:Int):Option ((List Int)):=
 bC (lw p0) λx14=>
 bC (bif (!x14) then
 some true
 else
 bC (mV p0 p1) λx19=>
 some (!x19)) λp21=>
 bC (bif p21 then
 some true
 else
 some (decide (p2<0))) λp25=>
 bC (bif p25 then
 some true
 else
 some (decide ((p1.Next.length:Int)<=p2))) λp32=>
 bC (bif p32 then
 some true
 else
 some (decide (p3<0))) λp36=>
 bC (bif p36 then
 some true
 else
 bC (dL p0) λx40=>
 some (decide (x40<=p3))) λp42=>
 bif p42 then
  some (([]:List Int):(List Int))
 else
  bC (nn p0.Out) λ_z46=>
  bC (rng (IntKind.i64.wrap (1 * 2 ^ (min (yG p0.Out) (IntKind.bits IntKind.i64))))) λ_=>
  bC (cntM (fh p0 p1 p2 p3 p4) (yG ((IntKind.i64.wrap (1 * 2 ^ (min (yG p0.Out) (IntKind.bits IntKind.i64))))-0)) 0 (([]:List Int):(List Int))) λq2=>
  aft (λr=>some r) (λs3=>
   some (s3:(List Int))) q2
def en (p0:Sig) (x27:Det×Bool) (x42:Parity×(List Place)×Bool) (x57:Answer) (s1:(List Int)×Int×(List (List Int))×(List (List Int))) (x75:Place) (v82:Int) (s4:(List Int)×(List Int)×(List Int)):Option ((Machine×Bool)⊕(((List Int)×(List Int)×(List Int))⊕((List Int)×(List Int)×(List Int)))):=
 bC (idx s4.1 s1.2.1) λx90=>
 bC (idx x42.1.Arena.Next x90) λx92=>
 bC (bY x92 x42.2.1 (x27.1.Next.length:Int) x75.At p0 v82) λx95=>
 bC (idx s4.1 s1.2.1) λx102=>
 bC (idx x42.1.Arena.Next x102) λx104=>
 bC (idx x104 x95) λx107=>
 bC (idx x57.Plan x107) λx109=>
 bC (cz s4.1 x109) λx113=>
 bC (bif decide (x113<0) then
  bC (appS 8 s4.1 ([x109]:List Int)) λx121=>
  some (x121,((s4.1.length:Int):Int))
 else
  some (s4.1,x113)) λq7=>
 bC (appS 8 s4.2.1 ([q7.2]:List Int)) λx125=>
 bC (idx x42.2.1 x109) λx133=>
 bC (jb p0 x27.1 x75.At v82 x133.At) λx136=>
 bC (idx x136 0) λx137=>
 bC (appS 8 s4.2.2 ([x137]:List Int)) λx140=>
 some (.inr (.inr (q7.1,x125,x140)))
def fN (p0:Sig) (x27:Det×Bool) (x42:Parity×(List Place)×Bool) (x57:Answer) (s1:(List Int)×Int×(List (List Int))×(List (List Int))):Option ((Machine×Bool)⊕(((List Int)×Int×(List (List Int))×(List (List Int)))⊕((List Int)×Int×(List (List Int))×(List (List Int))))):=
 bif decide (s1.2.1<(s1.1.length:Int)) then
  bC (idx s1.1 s1.2.1) λx73=>
  bC (idx x42.2.1 x73) λx75=>
  bC (dL p0) λx81=>
  bC (rng x81) λ_=>
  bC (cntM (en p0 x27 x42 x57 s1 x75) (yG (x81-0)) 0 (s1.1,(([]:List Int):(List Int)),(([]:List Int):(List Int)))) λq5=>
  aft (λr=>some (.inl r)) (λs6=>
   bC (appS 24 s1.2.2.1 ([s6.2.1]:List (List Int))) λx146=>
   bC (appS 24 s1.2.2.2 ([s6.2.2]:List (List Int))) λx152=>
   some (.inr (.inr (s6.1,((IntKind.i64.wrap (s1.2.1+1)):Int),x146,x152)))) q5
 else
  some (.inr (.inl (s1.1,s1.2.1,s1.2.2.1,s1.2.2.2)))
def gC (p0:Sig) (p1:(List Clause)):Option (Machine×Bool):=
 bC (cV p0 p1) λx27=>
 bif (!x27.2) then
  some (((⟨([]:List (List Int)),([]:List (List Int))⟩:Machine):Machine),false)
 else
  bC (eF p0 x27.1) λx36=>
  bC (dy x36.1 x36.2 0) λx42=>
  bC (bif (!x42.2.2) then
  some true
  else
  bC (er x42.1) λx50=>
  bC (idx x50 0) λx51=>
  some (x51 !=0)) λp54=>
  bif p54 then
   some (((⟨([]:List (List Int)),([]:List (List Int))⟩:Machine):Machine),false)
  else
   bC (kE x42.1) λx57=>
   bC (ca (fN p0 x27 x42 x57) (2 ^ 64) ((([0]:List Int):(List Int)),(0:Int),(([]:List (List Int)):(List (List Int))),(([]:List (List Int)):(List (List Int))))) λq2=>
   aft (λr=>some r) (λs3=>
    bif decide (48<(s3.1.length:Int)) then
     some (((⟨([]:List (List Int)),([]:List (List Int))⟩:Machine):Machine),false)
    else
     some (((⟨s3.2.2.1,s3.2.2.2⟩:Machine):Machine),true)) q2
def eI (p0:Int) (p1:Int) (p2:Int):Option (Bool):=
 bC (bif decide (p1<=p0) then
 some (decide (p0<=p2))
 else
 some false) λp14=>
 some (p14:Bool)
def ia (p0:Sig):Option (Bool):=
 bC (eI p0.In 1 2) λx5=>
 bC (bif x5 then
 bC (eI p0.Out 1 2) λx9=>
 some x9
 else
 some false) λp10=>
 some (p10:Bool)
def fb  (s1:Int×Int):Option (Int⊕((Int×Int)⊕(Int×Int))):=
 bif decide (0<s1.1) then
  some (.inr (.inr (((IntKind.i64.wrap (s1.1-1)):Int),((IntKind.i64.wrap (s1.2 * 2)):Int))))
 else
  some (.inr (.inl (s1.1,s1.2)))
def de (p0:Int):Option (Int):=
 bC (ca fb (2 ^ 64) (p0,(1:Int))) λq2=>
 aft (λr=>some r) (λs3=>
  some (s3.2:Int)) q2
def cU (p0:Sig):Option (Int):=
 bC (ia p0) λx4=>
 bif (!x4) then
  some (0:Int)
 else
  bC (de (IntKind.i64.wrap (p0.In+p0.Out))) λx11=>
  some (x11:Int)
def ib (p0:(List Int)) (p1:Int) (v5:Int) (s1:Unit):Option (Bool⊕((Unit)⊕(Unit))):=
 bC (idx p0 v5) λx14=>
 bC (eI x14 0 (IntKind.i64.wrap (p1-1))) λx18=>
 bC (bif (!x18) then
 some true
 else
 bC (bif decide (0<v5) then
 bC (idx p0 v5) λx26=>
 bC (idx p0 (IntKind.i64.wrap (v5-1))) λx31=>
 some (decide (x26<=x31))
 else
 some false) λp34=>
 some p34) λp35=>
 bif p35 then
  some (.inl (false:Bool))
 else
  some (.inr (.inr ()))
def kY (p0:(List Int)) (p1:Int):Option (Bool):=
 bC (cntM (ib p0 p1) p0.length 0 ()) λq2=>
 aft (λr=>some r) (λs3=>
  some (true:Bool)) q2
def kl (p0:(List Int)) (p1:Int):Option (Bool):=
 bC (bif decide ((p0.length:Int)<=p1) then
 bC (kY p0 p1) λx12=>
 some x12
 else
 some false) λp13=>
 some (p13:Bool)
def mZ (p0:Int):Option (Bool):=
 bC (bif (p0==2) then
 some true
 else
 some (p0==3)) λp8=>
 bC (bif p8 then
 some true
 else
 some (p0==7)) λp12=>
 some (p12:Bool)
def gw (p0:Sig) (p1:Clause):Option (Bool):=
 bC (ia p0) λx7=>
 bC (bif (!x7) then
 some true
 else
 bC (eI p1.Kind 1 7) λx12=>
 some (!x12)) λp14=>
 bif p14 then
  some (false:Bool)
 else
  bC (cU p0) λx16=>
  bC (kl p1.A x16) λx20=>
  bC (bif x20 then
  bC (kl p1.B x16) λx25=>
  some x25
  else
  some false) λp26=>
  bC (bif p26 then
  bC (mZ p1.Kind) λx30=>
  bC (bif x30 then
  some true
  else
  some ((p1.B.length:Int)==0)) λp36=>
  some p36
  else
  some false) λp37=>
  some (p37:Bool)
def fp (p0:Sig) (p1:(List Clause)) (v5:Int) (s1:Unit):Option (Bool⊕((Unit)⊕(Unit))):=
 bC (idx p1 v5) λx23=>
 bC (gw p0 x23) λx25=>
 bif (!x25) then
  some (.inl (false:Bool))
 else
  some (.inr (.inr ()))
def eE (p0:Sig) (p1:(List Clause)):Option (Bool):=
 bC (ia p0) λx7=>
 bC (bif (!x7) then
 some true
 else
 some (decide (3<(p1.length:Int)))) λp13=>
 bif p13 then
  some (false:Bool)
 else
  bC (cntM (fp p0 p1) p1.length 0 ()) λq2=>
  aft (λr=>some r) (λs3=>
   some (true:Bool)) q2
def lg (p0:Int):Option (Pair):=
 bC (bif (p0==1) then
  some (true:Bool)
 else
  some ((p0==5):Bool)) λq1=>
 bif q1 then
  some ((⟨([1]:List Int),([]:List Int)⟩:Pair):Pair)
 else
  bif (p0==2) then
   some ((⟨([2]:List Int),([]:List Int)⟩:Pair):Pair)
  else
   bif (p0==3) then
    some ((⟨([1]:List Int),([0]:List Int)⟩:Pair):Pair)
   else
    bif (p0==4) then
     some ((⟨([0,1]:List Int),([1]:List Int)⟩:Pair):Pair)
    else
     bif (p0==6) then
      some ((⟨([0]:List Int),([]:List Int)⟩:Pair):Pair)
     else
      some ((⟨([2,3]:List Int),([1,3]:List Int)⟩:Pair):Pair)
def i9 (p0:Int):Option (Int):=
 bif (p0==2) then
  some (3:Int)
 else
  bif (p0==7) then
   some (4:Int)
  else
   some (2:Int)
def gA (p0:(List Int)) (p1:Int) (v5:Int) (s1:Unit):Option (Bool⊕((Unit)⊕(Unit))):=
 bC (idx p0 v5) λx14=>
 bif (x14==p1) then
  some (.inl (true:Bool))
 else
  some (.inr (.inr ()))
def dH (p0:(List Int)) (p1:Int):Option (Bool):=
 bC (cntM (gA p0 p1) p0.length 0 ()) λq2=>
 aft (λr=>some r) (λs3=>
  some (false:Bool)) q2
def fL (p0:Bool):Option (Int):=
 bif p0 then
  some (1:Int)
 else
  some (0:Int)
def jx (p0:Int) (p1:Int):Option (Int):=
 bif decide (p1<p0) then
  some (p0:Int)
 else
  some (p1:Int)
def kG (p0:Clause) (p1:Int) (p2:Int):Option (Int):=
 bC (dH p0.A p2) λx12=>
 bC (fL x12) λx13=>
 bC (dH p0.B p2) λx17=>
 bC (fL x17) λx18=>
 bif (p0.Kind==1) then
  bC (jx p1 (IntKind.i64.wrap (1-x13))) λx26=>
  some (x26:Int)
 else
  bif (p0.Kind==2) then
   bC (bif (p1==2) then
   some true
   else
   bC (bif (p1==1) then
   some (x18==0)
   else
   some false) λp37=>
   some p37) λp38=>
   bif p38 then
    some (2:Int)
   else
    some (x13:Int)
  else
   bif (p0.Kind==3) then
    bif (x18==1) then
     some (0:Int)
    else
     bC (jx p1 x13) λx46=>
     some (x46:Int)
   else
    bif (p0.Kind==4) then
     some (x13:Int)
    else
     bif (p0.Kind==5) then
      some ((IntKind.i64.wrap (1-x13)):Int)
     else
      bif (p0.Kind==6) then
       bC (jx p1 x13) λx58=>
       some (x58:Int)
      else
       some ((IntKind.i64.wrap ((IntKind.i64.wrap (2 * x13))+x18)):Int)
def fJ (p0:Sig) (p1:Clause) (s1:Int×(List (List Int))) (s4:(List Int)×Int):Option (Det⊕(((List Int)×Int)⊕((List Int)×Int))):=
 bC (cU p0) λx29=>
 bif decide (s4.2<x29) then
  bC (kG p1 s1.1 s4.2) λx37=>
  bC (appS 8 s4.1 ([x37]:List Int)) λx39=>
  some (.inr (.inr (x39,((IntKind.i64.wrap (s4.2+1)):Int))))
 else
  some (.inr (.inl (s4.1,s4.2)))
def fB (p0:Sig) (p1:Clause) (s1:Int×(List (List Int))):Option (Det⊕((Int×(List (List Int)))⊕(Int×(List (List Int))))):=
 bC (i9 p1.Kind) λx22=>
 bif decide (s1.1<x22) then
  bC (ca (fJ p0 p1 s1) (2 ^ 64) ((([]:List Int):(List Int)),(0:Int))) λq5=>
  aft (λr=>some (.inl r)) (λs6=>
   bC (appS 24 s1.2 ([s6.1]:List (List Int))) λx44=>
   some (.inr (.inr (((IntKind.i64.wrap (s1.1+1)):Int),x44)))) q5
 else
  some (.inr (.inl (s1.1,s1.2)))
def jk (p0:Sig) (p1:Clause):Option (Det):=
 bC (gw p0 p1) λx11=>
 bif (!x11) then
  some ((⟨([]:List (List Int)),([]:List Pair)⟩:Det):Det)
 else
  bC (lg p1.Kind) λx16=>
  bC (ca (fB p0 p1) (2 ^ 64) ((0:Int),(([]:List (List Int)):(List (List Int))))) λq2=>
  aft (λr=>some r) (λs3=>
   some ((⟨s3.2,([x16]:List Pair)⟩:Det):Det)) q2
def gt (p0:(List Int)) (p1:Int) (v5:Int) (s1:Unit):Option (Bool⊕((Unit)⊕(Unit))):=
 bC (idx p0 v5) λx14=>
 bC (eI x14 0 (IntKind.i64.wrap (p1-1))) λx18=>
 bif (!x18) then
  some (.inl (false:Bool))
 else
  some (.inr (.inr ()))
def dS (p0:(List Int)) (p1:Int):Option (Bool):=
 bC (cntM (gt p0 p1) p0.length 0 ()) λq2=>
 aft (λr=>some r) (λs3=>
  some (true:Bool)) q2
def jr (p0:(List Int)) (p1:Int):Option (Bool):=
 bC (eI p1 0 256) λx6=>
 bC (bif x6 then
 bC (kl p0 p1) λx10=>
 some x10
 else
 some false) λp11=>
 some (p11:Bool)
def gV (p0:(List Pair)) (p1:Int) (v5:Int) (s1:Unit):Option (Bool⊕((Unit)⊕(Unit))):=
 bC (idx p0 v5) λx22=>
 bC (jr x22.Ask p1) λx26=>
 bC (bif (!x26) then
 some true
 else
 bC (idx p0 v5) λx31=>
 bC (jr x31.Give p1) λx35=>
 some (!x35)) λp37=>
 bif p37 then
  some (.inl (false:Bool))
 else
  some (.inr (.inr ()))
def jz (p0:(List Pair)) (p1:Int):Option (Bool):=
 bC (eI p1 0 256) λx7=>
 bC (bif (!x7) then
 some true
 else
 some (decide (4<(p0.length:Int)))) λp13=>
 bif p13 then
  some (false:Bool)
 else
  bC (cntM (gV p0 p1) p0.length 0 ()) λq2=>
  aft (λr=>some r) (λs3=>
   some (true:Bool)) q2
def jN (p0:Sig) (p1:Det) (v6:Int) (s1:Unit):Option (Bool⊕((Unit)⊕(Unit))):=
 bC (idx p1.Next v6) λx28=>
 bC (cU p0) λx32=>
 bC (bif ((x28.length:Int) !=x32) then
 some true
 else
 bC (idx p1.Next v6) λx38=>
 bC (dS x38 (p1.Next.length:Int)) λx41=>
 some (!x41)) λp43=>
 bif p43 then
  some (.inl (false:Bool))
 else
  some (.inr (.inr ()))
def kr (p0:Sig) (p1:Det):Option (Bool):=
 bC (ia p0) λx11=>
 bC (bif (!x11) then
 some true
 else
 bC (eI (p1.Next.length:Int) 1 48) λx15=>
 some (!x15)) λp17=>
 bif p17 then
  some (false:Bool)
 else
  bC (cntM (jN p0 p1) p1.Next.length 0 ()) λq2=>
  aft (λr=>some r) (λs3=>
   bC (jz p1.Pairs (p1.Next.length:Int)) λx47=>
   some (x47:Bool)) q2
def gf (p0:(List (List Int))) (p1:Int) (p2:Int) (v7:Int) (s1:Unit):Option (Int⊕((Unit)⊕(Unit))):=
 bC (idx p0 v7) λx16=>
 bC (idx x16 0) λx18=>
 bC (bif (x18==p1) then
 bC (idx p0 v7) λx25=>
 bC (idx x25 1) λx27=>
 some (x27==p2)
 else
 some false) λp31=>
 bif p31 then
  some (.inl (v7:Int))
 else
  some (.inr (.inr ()))
def jU (p0:(List (List Int))) (p1:Int) (p2:Int):Option (Int):=
 bC (cntM (gf p0 p1 p2) p0.length 0 ()) λq2=>
 aft (λr=>some r) (λs3=>
  some ((-1):Int)) q2
def fX (p0:(List Pair)) (p1:(List (List Int))) (p2:Int) (v8:Int) (v10:Int) (s4:(List Int)×(List Int)):Option ((List Pair)⊕(((List Int)×(List Int))⊕((List Int)×(List Int)))):=
 bC (idx p0 v8) λx27=>
 bC (idx p1 v10) λx32=>
 bC (idx x32 p2) λx35=>
 bC (dH x27.Ask x35) λx37=>
 bC (bif x37 then
  bC (appS 8 s4.1 ([v10]:List Int)) λx42=>
  some (x42:(List Int))
 else
  some (s4.1:(List Int))) λq7=>
 bC (idx p0 v8) λx46=>
 bC (idx p1 v10) λx51=>
 bC (idx x51 p2) λx54=>
 bC (dH x46.Give x54) λx56=>
 bC (bif x56 then
  bC (appS 8 s4.2 ([v10]:List Int)) λx61=>
  some (x61:(List Int))
 else
  some (s4.2:(List Int))) λq8=>
 some (.inr (.inr (q7,q8)))
def gk (p0:(List Pair)) (p1:(List (List Int))) (p2:Int) (v8:Int) (s1:(List Pair)):Option ((List Pair)⊕(((List Pair))⊕((List Pair)))):=
 bC (cntM (fX p0 p1 p2 v8) p1.length 0 ((([]:List Int):(List Int)),(([]:List Int):(List Int)))) λq5=>
 aft (λr=>some (.inl r)) (λs6=>
  bC (appS 48 s1 ([(⟨s6.1,s6.2⟩:Pair)]:List Pair)) λx66=>
  some (.inr (.inr (x66:(List Pair))))) q5
def iK (p0:(List Pair)) (p1:(List (List Int))) (p2:Int):Option ((List Pair)):=
 bC (cntM (gk p0 p1 p2) p0.length 0 (([]:List Pair):(List Pair))) λq2=>
 aft (λr=>some r) (λs3=>
  some (s3:(List Pair))) q2
def d8 (p0:Det) (p1:Det) (s1:(List (List Int))×Int×(List (List Int))) (v12:Int) (s4:(List (List Int))×(List Int)):Option ((Det×Bool)⊕(((List (List Int))×(List Int))⊕((List (List Int))×(List Int)))):=
 bC (idx s4.1 s1.2.1) λx35=>
 bC (idx x35 0) λx37=>
 bC (idx p0.Next x37) λx39=>
 bC (idx x39 v12) λx42=>
 bC (idx s4.1 s1.2.1) λx48=>
 bC (idx x48 1) λx50=>
 bC (idx p1.Next x50) λx52=>
 bC (idx x52 v12) λx55=>
 bC (jU s4.1 x42 x55) λx60=>
 bC (bif decide (x60<0) then
  bC (appS 24 s4.1 ([([x42,x55]:List Int)]:List (List Int))) λx70=>
  some (x70,((s4.1.length:Int):Int))
 else
  some (s4.1,x60)) λq7=>
 bC (appS 8 s4.2 ([q7.2]:List Int)) λx74=>
 some (.inr (.inr (q7.1,x74)))
def fK (p0:Det) (p1:Det) (p2:Int) (s1:(List (List Int))×Int×(List (List Int))):Option ((Det×Bool)⊕(((List (List Int))×Int×(List (List Int)))⊕((List (List Int))×Int×(List (List Int))))):=
 bif decide (s1.2.1<(s1.1.length:Int)) then
  bC (rng p2) λ_=>
  bC (cntM (d8 p0 p1 s1) (yG (p2-0)) 0 (s1.1,(([]:List Int):(List Int)))) λq5=>
  aft (λr=>some (.inl r)) (λs6=>
   bif decide (48<(s6.1.length:Int)) then
    some (.inl (((⟨([]:List (List Int)),([]:List Pair)⟩:Det):Det),false))
   else
    bC (appS 24 s1.2.2 ([s6.2]:List (List Int))) λx83=>
    some (.inr (.inr (s6.1,((IntKind.i64.wrap (s1.2.1+1)):Int),x83)))) q5
 else
  some (.inr (.inl (s1.1,s1.2.1,s1.2.2)))
def eD (p0:Det) (p1:Det) (p2:Int):Option (Det×Bool):=
 bC (ca (fK p0 p1 p2) (2 ^ 64) ((([([0,0]:List Int)]:List (List Int)):(List (List Int))),(0:Int),(([]:List (List Int)):(List (List Int))))) λq2=>
 aft (λr=>some r) (λs3=>
  bC (iK p0.Pairs s3.1 0) λx88=>
  bC (iK p1.Pairs s3.1 1) λx92=>
  bC (appS 48 x88 x92) λx93=>
  some (((⟨s3.2.2,x93⟩:Det):Det),true)) q2
def i7 (p0:Sig) (p1:Det) (p2:Det):Option (Det×Bool):=
 bC (kr p0 p1) λx10=>
 bC (bif (!x10) then
 some true
 else
 bC (kr p0 p2) λx15=>
 some (!x15)) λp17=>
 bC (bif p17 then
 some true
 else
 some (decide (4<(IntKind.i64.wrap ((p1.Pairs.length:Int)+(p2.Pairs.length:Int)))))) λp27=>
 bif p27 then
  some (((⟨([]:List (List Int)),([]:List Pair)⟩:Det):Det),false)
 else
  bC (cU p0) λx32=>
  bC (eD p1 p2 x32) λx33=>
  some (x33.1,x33.2)
def ez (p0:Sig) (p1:(List Clause)) (v7:Int) (s1:(List (List Int))×(List Pair)):Option ((Det×Bool)⊕(((List (List Int))×(List Pair))⊕((List (List Int))×(List Pair)))):=
 bC (idx p1 v7) λx32=>
 bC (jk p0 x32) λx34=>
 bC (i7 p0 (⟨s1.1,s1.2⟩:Det) x34) λx35=>
 bif (!x35.2) then
  some (.inl (((⟨([]:List (List Int)),([]:List Pair)⟩:Det):Det),false))
 else
  some (.inr (.inr (x35.1.Next,x35.1.Pairs)))
def cZ (p0:Sig) (p1:(List Clause)):Option (Det×Bool):=
 bC (eE p0 p1) λx12=>
 bif (!x12) then
  some (((⟨([]:List (List Int)),([]:List Pair)⟩:Det):Det),false)
 else
  bC (cU p0) λx16=>
  bC (mkS 8 x16 (0:Int)) λx17=>
  bC (cntM (ez p0 p1) p1.length 0 ((([x17]:List (List Int)):(List (List Int))),(([]:List Pair):(List Pair)))) λq2=>
  aft (λr=>some r) (λs3=>
   some (((⟨s3.1,s3.2⟩:Det):Det),true)) q2
def iX (p0:Sig):Option (Int):=
 bC (de p0.In) λx5=>
 some (x5:Int)
def jX (p0:Sig) (p1:Int) (p2:Int):Option (Int):=
 bC (ia p0) λx8=>
 bC (bif (!x8) then
 some true
 else
 bC (de p0.In) λx14=>
 bC (eI p1 0 (IntKind.i64.wrap (x14-1))) λx16=>
 some (!x16)) λp18=>
 bC (bif p18 then
 some true
 else
 bC (de p0.Out) λx23=>
 bC (eI p2 0 (IntKind.i64.wrap (x23-1))) λx25=>
 some (!x25)) λp27=>
 bif p27 then
  some ((-1):Int)
 else
  bC (de p0.In) λx31=>
  some ((IntKind.i64.wrap ((IntKind.i64.wrap (p2 * x31))+p1)):Int)
def da (p0:(List Int)):Option ((List Int)):=
 bC (appS 8 ([]:List Int) p0) λx5=>
 some (x5:(List Int))
def fu (p0:(List Int)) (p1:Int) (s1:Int):Option ((List Int)⊕((Int)⊕(Int))):=
 bC (bif decide (s1<(p0.length:Int)) then
 bC (idx p0 s1) λx14=>
 some (decide (x14<p1))
 else
 some false) λp18=>
 bif p18 then
  some (.inr (.inr ((IntKind.i64.wrap (s1+1)):Int)))
 else
  some (.inr (.inl (s1:Int)))
def jc (p0:(List Int)) (p1:Int):Option ((List Int)):=
 bC (ca (fu p0 p1) (2 ^ 64) (0:Int)) λq2=>
 aft (λr=>some r) (λs3=>
  bC (bif decide (s3<(p0.length:Int)) then
  bC (idx p0 s3) λx28=>
  some (x28==p1)
  else
  some false) λp32=>
  bif p32 then
   some (p0:(List Int))
  else
   bC (subS p0 0 s3) λx36=>
   bC (da x36) λx37=>
   bC (appS 8 x37 ([p1]:List Int)) λx40=>
   bC (subS p0 s3 (p0.length:Int)) λx44=>
   bC (appS 8 x40 x44) λx45=>
   some (x45:(List Int))) q2
def gq (p0:Sig) (p1:Det) (p2:Int) (p3:Int) (s1:(List Int)×Int):Option ((List Int)⊕(((List Int)×Int)⊕((List Int)×Int))):=
 bC (de p0.Out) λx15=>
 bif decide (s1.2<x15) then
  bC (idx p1.Next p2) λx23=>
  bC (jX p0 p3 s1.2) λx28=>
  bC (idx x23 x28) λx29=>
  bC (jc s1.1 x29) λx31=>
  some (.inr (.inr (x31,((IntKind.i64.wrap (s1.2+1)):Int))))
 else
  some (.inr (.inl (s1.1,s1.2)))
def j6 (p0:Sig) (p1:Det) (p2:Int) (p3:Int):Option ((List Int)):=
 bC (ca (gq p0 p1 p2 p3) (2 ^ 64) ((([]:List Int):(List Int)),(0:Int))) λq2=>
 aft (λr=>some r) (λs3=>
  some (s3.1:(List Int))) q2
def ee (p1:Det) (x27:Int) (v10:Int) (v12:Int) (s4:(List Int)):Option ((Arena×(List Pair)×Bool)⊕(((List Int))⊕((List Int)))):=
 bC (appS 8 s4 ([(IntKind.i64.wrap ((IntKind.i64.wrap ((p1.Next.length:Int)+(IntKind.i64.wrap (v10 * x27))))+v12))]:List Int)) λx49=>
 some (.inr (.inr (x49:(List Int))))
def dW (p1:Det) (x27:Int) (v10:Int) (s1:(List Int)×(List (List Int))):Option ((Arena×(List Pair)×Bool)⊕(((List Int)×(List (List Int)))⊕((List Int)×(List (List Int))))):=
 bC (rng x27) λ_=>
 bC (cntM (ee p1 x27 v10) (yG (x27-0)) 0 (([]:List Int):(List Int))) λq5=>
 aft (λr=>some (.inl r)) (λs6=>
  bC (appS 8 s1.1 ([1]:List Int)) λx53=>
  bC (appS 24 s1.2 ([s6]:List (List Int))) λx59=>
  some (.inr (.inr (x53,x59)))) q5
def dX (p0:Sig) (p1:Det) (v13:Int) (v14:Int) (s10:(List Int)×(List (List Int))):Option ((Arena×(List Pair)×Bool)⊕(((List Int)×(List (List Int)))⊕((List Int)×(List (List Int))))):=
 bC (appS 8 s10.1 ([0]:List Int)) λx74=>
 bC (j6 p0 p1 v13 v14) λx82=>
 bC (appS 24 s10.2 ([x82]:List (List Int))) λx84=>
 some (.inr (.inr (x74,x84)))
def eo (p0:Sig) (p1:Det) (x27:Int) (v13:Int) (s7:(List Int)×(List (List Int))):Option ((Arena×(List Pair)×Bool)⊕(((List Int)×(List (List Int)))⊕((List Int)×(List (List Int))))):=
 bC (rng x27) λ_=>
 bC (cntM (dX p0 p1 v13) (yG (x27-0)) 0 (s7.1,s7.2)) λq11=>
 aft (λr=>some (.inl r)) (λs12=>
  some (.inr (.inr (s12.1,s12.2)))) q11
def eg (p1:Det) (v16:Int) (s13:(List Pair)):Option ((Arena×(List Pair)×Bool)⊕(((List Pair))⊕((List Pair)))):=
 bC (idx p1.Pairs v16) λx98=>
 bC (idx p1.Pairs v16) λx105=>
 bC (da x98.Ask) λx101=>
 bC (da x105.Give) λx108=>
 bC (appS 48 s13 ([(⟨x101,x108⟩:Pair)]:List Pair)) λx111=>
 some (.inr (.inr (x111:(List Pair))))
def fi (p0:Sig) (p1:Det):Option (Arena×(List Pair)×Bool):=
 bC (kr p0 p1) λx19=>
 bif (!x19) then
  some (((⟨([]:List Int),([]:List (List Int))⟩:Arena):Arena),(([]:List Pair):(List Pair)),false)
 else
  bC (iX p0) λx27=>
  bC (cntM (dW p1 x27) p1.Next.length 0 ((([]:List Int):(List Int)),(([]:List (List Int)):(List (List Int))))) λq2=>
  aft (λr=>some r) (λs3=>
   bC (cntM (eo p0 p1 x27) p1.Next.length 0 (s3.1,s3.2)) λq8=>
   aft (λr=>some r) (λs9=>
    bC (cntM (eg p1) p1.Pairs.length 0 (([]:List Pair):(List Pair))) λq14=>
    aft (λr=>some r) (λs15=>
     some (((⟨s9.1,s9.2⟩:Arena):Arena),s15,true)) q14) q8) q2
def gP (p0:Arena) (v4:Int) (s1:Unit):Option (Bool⊕((Unit)⊕(Unit))):=
 bC (idx p0.Owner v4) λx30=>
 bC (eI x30 0 1) λx32=>
 bC (bif (!x32) then
 some true
 else
 bC (idx p0.Next v4) λx38=>
 some (decide ((x38.length:Int)<1))) λp42=>
 bC (bif p42 then
 some true
 else
 bC (idx p0.Next v4) λx47=>
 some (decide (16<(x47.length:Int)))) λp51=>
 bC (bif p51 then
 some true
 else
 bC (idx p0.Next v4) λx56=>
 bC (kl x56 (p0.Owner.length:Int)) λx59=>
 some (!x59)) λp61=>
 bif p61 then
  some (.inl (false:Bool))
 else
  some (.inr (.inr ()))
def jB (p0:Arena):Option (Bool):=
 bC (eI (p0.Owner.length:Int) 1 256) λx9=>
 bC (bif (!x9) then
 some true
 else
 some ((p0.Next.length:Int) !=(p0.Owner.length:Int))) λp19=>
 bif p19 then
  some (false:Bool)
 else
  bC (cntM (gP p0) p0.Owner.length 0 ()) λq2=>
  aft (λr=>some r) (λs3=>
   some (true:Bool)) q2
def je (p0:(List Int)) (p1:Int) (v5:Int) (s1:Unit):Option (Bool⊕((Unit)⊕(Unit))):=
 bC (idx p0 v5) λx14=>
 bif (x14==p1) then
  some (.inl (true:Bool))
 else
  some (.inr (.inr ()))
def jJ (p0:(List Int)) (p1:Int):Option (Bool):=
 bC (cntM (je p0 p1) p0.length 0 ()) λq2=>
 aft (λr=>some r) (λs3=>
  some (false:Bool)) q2
def eJ (p0:(List Pair)) (p1:(List Int)) (p2:Int) (v9:Int) (s1:(List Int)×(List Int)):Option ((List Int)⊕(((List Int)×(List Int))⊕((List Int)×(List Int)))):=
 bC (idx p1 v9) λx21=>
 bC (idx p0 x21) λx23=>
 bC (jJ x23.Give p2) λx27=>
 bC (bif x27 then
  bC (idx p1 v9) λx31=>
  bC (appS 8 s1.1 ([x31]:List Int)) λx34=>
  some (x34,s1.2)
 else
  bC (idx p1 v9) λx38=>
  bC (appS 8 s1.2 ([x38]:List Int)) λx41=>
  some (s1.1,x41)) λq4=>
 some (.inr (.inr (q4.1,q4.2)))
def iJ (p0:(List Pair)) (p1:(List Int)) (p2:Int):Option ((List Int)):=
 bC (cntM (eJ p0 p1 p2) p1.length 0 ((([]:List Int):(List Int)),(([]:List Int):(List Int)))) λq2=>
 aft (λr=>some r) (λs3=>
  bC (appS 8 s3.1 s3.2) λx44=>
  some (x44:(List Int))) q2
def eq (p0:(List Int)) (p1:(List Int)) (v5:Int) (s1:Unit):Option (Bool⊕((Unit)⊕(Unit))):=
 bC (idx p0 v5) λx19=>
 bC (idx p1 v5) λx23=>
 bif (x19 !=x23) then
  some (.inl (false:Bool))
 else
  some (.inr (.inr ()))
def gi (p0:(List Int)) (p1:(List Int)):Option (Bool):=
 bif ((p0.length:Int) !=(p1.length:Int)) then
  some (false:Bool)
 else
  bC (cntM (eq p0 p1) p0.length 0 ()) λq2=>
  aft (λr=>some r) (λs3=>
   some (true:Bool)) q2
def ij (p0:(List Place)) (p1:Int) (p2:(List Int)) (v7:Int) (s1:Unit):Option (Int⊕((Unit)⊕(Unit))):=
 bC (idx p0 v7) λx16=>
 bC (bif (x16.At==p1) then
 bC (idx p0 v7) λx24=>
 bC (gi x24.Record p2) λx28=>
 some x28
 else
 some false) λp29=>
 bif p29 then
  some (.inl (v7:Int))
 else
  some (.inr (.inr ()))
def kU (p0:(List Place)) (p1:Int) (p2:(List Int)):Option (Int):=
 bC (cntM (ij p0 p1 p2) p0.length 0 ()) λq2=>
 aft (λr=>some r) (λs3=>
  some ((-1):Int)) q2
def fP (p0:(List Int)) (v4:Int) (s1:(List Int)) (s4:Int):Option ((List Int)⊕((Int)⊕(Int))):=
 bC (bif decide (0<s4) then
 bC (idx s1 (IntKind.i64.wrap (s4-1))) λx22=>
 bC (idx p0 v4) λx26=>
 some (decide (x26<x22))
 else
 some false) λp29=>
 bif p29 then
  some (.inr (.inr ((IntKind.i64.wrap (s4-1)):Int)))
 else
  some (.inr (.inl (s4:Int)))
def fw (p0:(List Int)) (v4:Int) (s1:(List Int)):Option ((List Int)⊕(((List Int))⊕((List Int)))):=
 bC (ca (fP p0 v4 s1) (2 ^ 64) ((s1.length:Int):Int)) λq5=>
 aft (λr=>some (.inl r)) (λs6=>
  bC (subS s1 0 s6) λx35=>
  bC (appS 8 ([]:List Int) x35) λx36=>
  bC (idx p0 v4) λx40=>
  bC (appS 8 x36 ([x40]:List Int)) λx43=>
  bC (subS s1 s6 (s1.length:Int)) λx47=>
  bC (appS 8 x43 x47) λx48=>
  some (.inr (.inr (x48:(List Int))))) q5
def iQ (p0:(List Int)):Option ((List Int)):=
 bC (cntM (fw p0) p0.length 0 (([]:List Int):(List Int))) λq2=>
 aft (λr=>some r) (λs3=>
  some (s3:(List Int))) q2
def eH (p0:(List Pair)) (p1:(List Int)) (p2:Int) (v9:Int) (s1:Int×Int):Option (Int⊕((Int×Int)⊕(Int×Int))):=
 bC (idx p1 v9) λx19=>
 bC (idx p0 x19) λx21=>
 bC (jJ x21.Ask p2) λx25=>
 bC (bif x25 then
  some (v9:Int)
 else
  some (s1.1:Int)) λq4=>
 bC (idx p1 v9) λx30=>
 bC (idx p0 x30) λx32=>
 bC (jJ x32.Give p2) λx36=>
 bC (bif x36 then
  some (v9:Int)
 else
  some (s1.2:Int)) λq5=>
 some (.inr (.inr (q4,q5)))
def iB (p0:(List Pair)) (p1:(List Int)) (p2:Int):Option (Int):=
 bC (cntM (eH p0 p1 p2) p1.length 0 (((-1):Int),((-1):Int))) λq2=>
 aft (λr=>some r) (λs3=>
  bC (bif decide (s3.1<0) then
  some (decide (s3.2<0))
  else
  some false) λp44=>
  bif p44 then
   some (0:Int)
  else
   bif decide (s3.2<s3.1) then
    some ((IntKind.i64.wrap ((IntKind.i64.wrap (2 * s3.1))+1)):Int)
   else
    some ((IntKind.i64.wrap ((IntKind.i64.wrap (2 * s3.2))+2)):Int)) q2
def dM  (v11:Int) (s1:(List Int)):Option ((Parity×(List Place)×Bool)⊕(((List Int))⊕((List Int)))):=
 bC (appS 8 s1 ([v11]:List Int)) λx52=>
 some (.inr (.inr (x52:(List Int))))
def eZ (p0:Arena) (x66:Place) (x73:(List Int)) (s7:(List Place)×(List Int)×Int):Option ((Parity×(List Place)×Bool)⊕(((List Place)×(List Int)×Int)⊕((List Place)×(List Int)×Int))):=
 bC (idx p0.Next x66.At) λx80=>
 bif decide (s7.2.2<(x80.length:Int)) then
  bC (idx p0.Next x66.At) λx90=>
  bC (idx x90 s7.2.2) λx93=>
  bC (kU s7.1 x93 x73) λx98=>
  bC (bif decide (x98<0) then
   bif decide (256<=(s7.1.length:Int)) then
    some (.inl (((⟨(⟨([]:List Int),([]:List (List Int))⟩:Arena),([]:List Int)⟩:Parity):Parity),(([]:List Place):(List Place)),false))
   else
    bC (appS 8 ([]:List Int) x73) λx111=>
    bC (appS 32 s7.1 ([(⟨x93,x111⟩:Place)]:List Place)) λx114=>
    some (.inr (x114,((s7.1.length:Int):Int)))
  else
   some (.inr (s7.1,x98)):Option ((Parity×(List Place)×Bool)⊕((List Place)×Int))) λq10=>
  aft (λr=>some (.inl r)) (λz10=>
   bC (appS 8 s7.2.1 ([z10.2]:List Int)) λx118=>
   some (.inr (.inr (z10.1,x118,((IntKind.i64.wrap (s7.2.2+1)):Int))))) q10
 else
  some (.inr (.inl (s7.1,s7.2.1,s7.2.2)))
def dN (p0:Arena) (p1:(List Pair)) (s4:(List Place)×Int×(List Int)×(List (List Int))×(List Int)):Option ((Parity×(List Place)×Bool)⊕(((List Place)×Int×(List Int)×(List (List Int))×(List Int))⊕((List Place)×Int×(List Int)×(List (List Int))×(List Int)))):=
 bif decide (s4.2.1<(s4.1.length:Int)) then
  bC (idx s4.1 s4.2.1) λx66=>
  bC (iJ p1 x66.Record x66.At) λx73=>
  bC (ca (eZ p0 x66 x73) (2 ^ 64) (s4.1,(([]:List Int):(List Int)),(0:Int))) λq8=>
  aft (λr=>some (.inl r)) (λs9=>
   bC (idx p0.Owner x66.At) λx126=>
   bC (appS 8 s4.2.2.1 ([x126]:List Int)) λx129=>
   bC (iQ s9.2.1) λx136=>
   bC (appS 24 s4.2.2.2.1 ([x136]:List (List Int))) λx138=>
   bC (iB p1 x66.Record x66.At) λx148=>
   bC (appS 8 s4.2.2.2.2 ([x148]:List Int)) λx150=>
   some (.inr (.inr (s9.1,((IntKind.i64.wrap (s4.2.1+1)):Int),x129,x138,x150)))) q8
 else
  some (.inr (.inl (s4.1,s4.2.1,s4.2.2.1,s4.2.2.2.1,s4.2.2.2.2)))
def fl (p0:Arena) (p1:(List Pair)) (p2:Int):Option (Parity×(List Place)×Bool):=
 bC (jB p0) λx25=>
 bC (bif (!x25) then
 some true
 else
 bC (jz p1 (p0.Owner.length:Int)) λx30=>
 some (!x30)) λp32=>
 bC (bif p32 then
 some true
 else
 bC (eI p2 0 (IntKind.i64.wrap ((p0.Owner.length:Int)-1))) λx37=>
 some (!x37)) λp39=>
 bif p39 then
  some (((⟨(⟨([]:List Int),([]:List (List Int))⟩:Arena),([]:List Int)⟩:Parity):Parity),(([]:List Place):(List Place)),false)
 else
  bC (cntM dM p1.length 0 (([]:List Int):(List Int))) λq2=>
  aft (λr=>some r) (λs3=>
   bC (ca (dN p0 p1) (2 ^ 64) ((([(⟨p2,s3⟩:Place)]:List Place):(List Place)),(0:Int),(([]:List Int):(List Int)),(([]:List (List Int)):(List (List Int))),(([]:List Int):(List Int)))) λq5=>
   aft (λr=>some r) (λs6=>
    some (((⟨(⟨s6.2.2.1,s6.2.2.2.1⟩:Arena),s6.2.2.2.2⟩:Parity):Parity),s6.1,true)) q5) q2
def ka (p0:Int) (s1:(List Int)×Int):Option ((List Int)⊕(((List Int)×Int)⊕((List Int)×Int))):=
 bC (bif decide (s1.2<p0) then
 some (decide (p0<=256))
 else
 some false) λp12=>
 bif p12 then
  bC (appS 8 s1.1 ([s1.2]:List Int)) λx18=>
  some (.inr (.inr (x18,((IntKind.i64.wrap (s1.2+1)):Int))))
 else
  some (.inr (.inl (s1.1,s1.2)))
def nL (p0:Int):Option ((List Int)):=
 bC (ca (ka p0) (2 ^ 64) ((([]:List Int):(List Int)),(0:Int))) λq2=>
 aft (λr=>some r) (λs3=>
  some (s3.1:(List Int))) q2
def mS (p0:Parity):Option ((List Int)):=
 bC (nL (p0.Prio.length:Int)) λx6=>
 some (x6:(List Int))
def gc (p0:Parity) (v3:Int) (s1:Unit):Option (Bool⊕((Unit)⊕(Unit))):=
 bC (idx p0.Prio v3) λx28=>
 bC (eI x28 0 40) λx30=>
 bif (!x30) then
  some (.inl (false:Bool))
 else
  some (.inr (.inr ()))
def gx (p0:Parity):Option (Bool):=
 bC (jB p0.Arena) λx6=>
 bC (bif (!x6) then
 some true
 else
 some ((p0.Prio.length:Int) !=(p0.Arena.Owner.length:Int))) λp17=>
 bif p17 then
  some (false:Bool)
 else
  bC (cntM (gc p0) p0.Prio.length 0 ()) λq2=>
  aft (λr=>some r) (λs3=>
   some (true:Bool)) q2
def kP (p0:Parity) (v5:Int) (s4:Int×(List (List Int))):Option (l7Game⊕((Int×(List (List Int)))⊕(Int×(List (List Int))))):=
 bC (idx p0.Arena.Next v5) λx38=>
 bif decide (s4.1<(x38.length:Int)) then
  bC (idx p0.Arena.Next v5) λx48=>
  bC (idx x48 s4.1) λx51=>
  bC (idx s4.2 x51) λx59=>
  bC (appS 8 x59 ([v5]:List Int)) λx63=>
  bC (idx s4.2 x51) λx64=>
  bC (setI s4.2 x51 (x63:(List Int))) λy369=>
  some (.inr (.inr (((IntKind.i64.wrap (s4.1+1)):Int),y369)))
 else
  some (.inr (.inl (s4.1,s4.2)))
def kZ (p0:Parity) (v5:Int) (s1:(List (List Int))×(List Int)):Option (l7Game⊕(((List (List Int))×(List Int))⊕((List (List Int))×(List Int)))):=
 bC (idx s1.2 v5) λx32=>
 bC (setI s1.2 v5 (-1)) λy367=>
 bC (ca (kP p0 v5) (2 ^ 64) ((0:Int),s1.1)) λq5=>
 aft (λr=>some (.inl r)) (λs6=>
  some (.inr (.inr (s6.2,y367)))) q5
def nf (p0:Parity):Option (l7Game):=
 bC (mkS 24 (p0.Prio.length:Int) (([]:List Int):(List Int))) λx20=>
 bC (mkS 8 (p0.Prio.length:Int) (0:Int)) λx22=>
 bC (cntM (kZ p0) p0.Prio.length 0 (((⟨p0.Arena.Owner,p0.Prio,p0.Arena.Next,x20,x22⟩:l7Game).prev:(List (List Int))),((⟨p0.Arena.Owner,p0.Prio,p0.Arena.Next,x20,x22⟩:l7Game).pick:(List Int)))) λq2=>
 aft (λr=>some r) (λs3=>
  some ((⟨(⟨p0.Arena.Owner,p0.Prio,p0.Arena.Next,x20,x22⟩:l7Game).owner,(⟨p0.Arena.Owner,p0.Prio,p0.Arena.Next,x20,x22⟩:l7Game).prio,(⟨p0.Arena.Owner,p0.Prio,p0.Arena.Next,x20,x22⟩:l7Game).next,s3.1,s3.2⟩:l7Game):l7Game)) q2
def jg (p1:(List Int)) (v6:Int) (s1:(List Bool)):Option ((List Bool)⊕(((List Bool))⊕((List Bool)))):=
 bC (idx p1 v6) λx18=>
 bC (idx s1 x18) λx20=>
 bC (setI s1 x18 true) λy372=>
 some (.inr (.inr (y372:(List Bool))))
def mt (p0:Int) (p1:(List Int)):Option ((List Bool)):=
 bC (mkS 1 p0 (false:Bool)) λx8=>
 bC (cntM (jg p1) p1.length 0 (x8:(List Bool))) λq2=>
 aft (λr=>some r) (λs3=>
  some (s3:(List Bool))) q2
def kH (p0:l7Game) (p1:Int) (p2:Int):Option (Bool):=
 bC (idx p0.pick p1) λx10=>
 bC (bif decide (x10<0) then
 some true
 else
 bC (idx p0.pick p1) λx17=>
 some (x17==p2)) λp21=>
 some (p21:Bool)
def gg (p0:l7Game) (p1:(List Bool)) (p2:Int) (s1:Int×Int):Option (Int⊕((Int×Int)⊕(Int×Int))):=
 bC (idx p0.next p2) λx14=>
 bif decide (s1.2<(x14.length:Int)) then
  bC (idx p0.next p2) λx23=>
  bC (idx x23 s1.2) λx26=>
  bC (idx p1 x26) λx30=>
  bC (bif x30 then
  bC (kH p0 p2 x26) λx36=>
  some x36
  else
  some false) λp37=>
  bC (bif p37 then
   some ((IntKind.i64.wrap (s1.1+1)):Int)
  else
   some (s1.1:Int)) λq4=>
  some (.inr (.inr (q4,((IntKind.i64.wrap (s1.2+1)):Int))))
 else
  some (.inr (.inl (s1.1,s1.2)))
def gv (p0:l7Game) (p1:(List Bool)) (p2:Int):Option (Int):=
 bC (ca (gg p0 p1 p2) (2 ^ 64) ((0:Int),(0:Int))) λq2=>
 aft (λr=>some r) (λs3=>
  some (s3.1:Int)) q2
def jV (p0:l7Game) (p1:(List Bool)) (v6:Int) (s1:Int):Option (Int⊕((Int)⊕(Int))):=
 bC (idx p1 v6) λx15=>
 bC (bif x15 then
  bC (idx p0.prio v6) λx21=>
  bC (jx s1 x21) λx23=>
  some (x23:Int)
 else
  some (s1:Int)) λq4=>
 some (.inr (.inr (q4:Int)))
def nX (p0:l7Game) (p1:(List Bool)):Option (Int):=
 bC (cntM (jV p0 p1) p1.length 0 ((-1):Int)) λq2=>
 aft (λr=>some r) (λs3=>
  some (s3:Int)) q2
def eb (p0:l7Game) (p1:(List Bool)) (p3:(List Bool)) (v12:Int) (s1:(List Int)×(List Bool)×(List Int)):Option ((List Bool)⊕(((List Int)×(List Bool)×(List Int))⊕((List Int)×(List Bool)×(List Int)))):=
 bC (idx p1 v12) λx32=>
 bC (bif x32 then
  bC (gv p0 p1 v12) λx39=>
  bC (idx s1.2.2 v12) λx40=>
  bC (setI s1.2.2 v12 x39) λy386=>
  some (y386:(List Int))
 else
  some (s1.2.2:(List Int))) λq4=>
 bC (idx p1 v12) λx43=>
 bC (bif x43 then
 bC (idx p3 v12) λx48=>
 some x48
 else
 some false) λp50=>
 bC (bif p50 then
  bC (idx s1.2.1 v12) λx53=>
  bC (setI s1.2.1 v12 true) λy387=>
  bC (appS 8 s1.1 ([v12]:List Int)) λx57=>
  some (x57,y387)
 else
  some (s1.1,s1.2.1)) λq5=>
 some (.inr (.inr (q5.1,q5.2,q4)))
def dv (p0:l7Game) (p1:(List Bool)) (p2:Int) (x66:Int) (s9:(List Int)×Int×(List Bool)×(List Int)):Option ((List Bool)⊕(((List Int)×Int×(List Bool)×(List Int))⊕((List Int)×Int×(List Bool)×(List Int)))):=
 bC (idx p0.prev x66) λx72=>
 bif decide (s9.2.1<(x72.length:Int)) then
  bC (idx p0.prev x66) λx81=>
  bC (idx x81 s9.2.1) λx84=>
  bC (idx p1 x84) λx88=>
  bC (bif (!x88) then
  some true
  else
  bC (idx s9.2.2.1 x84) λx94=>
  some x94) λp96=>
  bC (bif p96 then
  some true
  else
  bC (kH p0 x84 x66) λx101=>
  some (!x101)) λp103=>
  bif p103 then
   some (.inr (.inr (s9.1,((IntKind.i64.wrap (s9.2.1+1)):Int),s9.2.2.1,s9.2.2.2)))
  else
   bC (idx s9.2.2.2 x84) λx106=>
   bC (idx s9.2.2.2 x84) λx109=>
   bC (setI s9.2.2.2 x84 (IntKind.i64.wrap (x106-1))) λy390=>
   bC (idx p0.owner x84) λx113=>
   bC (bif (x113==p2) then
   some true
   else
   bC (idx y390 x84) λx120=>
   some (x120==0)) λp123=>
   bC (bif p123 then
    bC (idx s9.2.2.1 x84) λx126=>
    bC (setI s9.2.2.1 x84 true) λy391=>
    bC (appS 8 s9.1 ([x84]:List Int)) λx130=>
    some (x130,y391)
   else
    some (s9.1,s9.2.2.1)) λq12=>
   some (.inr (.inr (q12.1,((IntKind.i64.wrap (s9.2.1+1)):Int),q12.2,y390)))
 else
  some (.inr (.inl (s9.1,s9.2.1,s9.2.2.1,s9.2.2.2)))
def fI (p0:l7Game) (p1:(List Bool)) (p2:Int) (s6:(List Int)×Int×(List Bool)×(List Int)):Option ((List Bool)⊕(((List Int)×Int×(List Bool)×(List Int))⊕((List Int)×Int×(List Bool)×(List Int)))):=
 bif decide (s6.2.1<(s6.1.length:Int)) then
  bC (idx s6.1 s6.2.1) λx66=>
  bC (ca (dv p0 p1 p2 x66) (2 ^ 64) (s6.1,(0:Int),s6.2.2.1,s6.2.2.2)) λq10=>
  aft (λr=>some (.inl r)) (λs11=>
   some (.inr (.inr (s11.1,((IntKind.i64.wrap (s6.2.1+1)):Int),s11.2.2.1,s11.2.2.2)))) q10
 else
  some (.inr (.inl (s6.1,s6.2.1,s6.2.2.1,s6.2.2.2)))
def gJ (p0:l7Game) (p1:(List Bool)) (p2:Int) (p3:(List Bool)):Option ((List Bool)):=
 bC (mkS 1 (p1.length:Int) (false:Bool)) λx19=>
 bC (mkS 8 (p1.length:Int) (0:Int)) λx22=>
 bC (cntM (eb p0 p1 p3) p1.length 0 ((([]:List Int):(List Int)),x19,x22)) λq2=>
 aft (λr=>some r) (λs3=>
  bC (ca (fI p0 p1 p2) (2 ^ 64) (s3.1,(0:Int),s3.2.1,s3.2.2)) λq7=>
  aft (λr=>some r) (λs8=>
   some (s8.2.2.1:(List Bool))) q7) q2
def i8 (p0:(List Bool)) (p1:(List Bool)) (v6:Int) (s1:(List Bool)):Option ((List Bool)⊕(((List Bool))⊕((List Bool)))):=
 bC (idx p0 v6) λx20=>
 bC (bif x20 then
 bC (idx p1 v6) λx25=>
 some (!x25)
 else
 some false) λp28=>
 bC (idx s1 v6) λx29=>
 bC (setI s1 v6 p28) λy395=>
 some (.inr (.inr (y395:(List Bool))))
def kS (p0:(List Bool)) (p1:(List Bool)):Option ((List Bool)):=
 bC (mkS 1 (p0.length:Int) (false:Bool)) λx9=>
 bC (cntM (i8 p0 p1) p0.length 0 (x9:(List Bool))) λq2=>
 aft (λr=>some r) (λs3=>
  some (s3:(List Bool))) q2
def jG (p0:l7Game) (p1:(List Bool)) (x21:Int) (v9:Int) (s1:(List Bool)):Option ((List Bool)⊕(((List Bool))⊕((List Bool)))):=
 bC (idx p1 v9) λx43=>
 bC (bif x43 then
 bC (idx p0.prio v9) λx49=>
 some (x49==x21)
 else
 some false) λp53=>
 bC (idx s1 v9) λx54=>
 bC (setI s1 v9 p53) λy380=>
 some (.inr (.inr (y380:(List Bool))))
def iH (x21:Int) (x61:(List Bool)) (x64:(List Bool)) (v14:Int) (s4:Bool×(List Bool)):Option ((List Bool)⊕((Bool×(List Bool))⊕(Bool×(List Bool)))):=
 bC (idx x61 v14) λx78=>
 bC (bif x78 then
 bC (idx x64 v14) λx83=>
 some (x83 !=((Int.tmod x21 2)==0))
 else
 some false) λp88=>
 bC (idx s4.2 v14) λx89=>
 bC (setI s4.2 v14 p88) λy398=>
 bC (bif s4.1 then
 some true
 else
 bC (idx y398 v14) λx94=>
 some x94) λp96=>
 some (.inr (.inr (p96,y398)))
def j7 (p1:(List Bool)) (x21:Int) (v15:Int) (s7:(List Bool)):Option ((List Bool)⊕(((List Bool))⊕((List Bool)))):=
 bC (idx p1 v15) λx109=>
 bC (bif x109 then
 some ((Int.tmod x21 2)==0)
 else
 some false) λp114=>
 bC (idx s7 v15) λx115=>
 bC (setI s7 v15 p114) λy399=>
 some (.inr (.inr (y399:(List Bool))))
def jT (x21:Int) (x122:(List Bool)) (x127:(List Bool)) (v18:Int) (s10:(List Bool)):Option ((List Bool)⊕(((List Bool))⊕((List Bool)))):=
 bC (idx x127 v18) λx138=>
 bC (bif x138 then
 some true
 else
 bC (idx x122 v18) λx143=>
 bC (bif x143 then
 some ((Int.tmod x21 2)==1)
 else
 some false) λp148=>
 some p148) λp149=>
 bC (idx s10 v18) λx150=>
 bC (setI s10 v18 p149) λy403=>
 some (.inr (.inr (y403:(List Bool))))
def iF (rc:l7Game->(List Bool)->Option ((List Bool))) (p0:l7Game) (p1:(List Bool)):Option ((List Bool)):=
 bC (nX p0 p1) λx21=>
 bC (mkS 1 (p1.length:Int) (false:Bool)) λx24=>
 bif decide (x21<0) then
  some (x24:(List Bool))
 else
  bC (mkS 1 (p1.length:Int) (false:Bool)) λx32=>
  bC (cntM (jG p0 p1 x21) p1.length 0 (x32:(List Bool))) λq2=>
  aft (λr=>some r) (λs3=>
   bC (gJ p0 p1 (Int.tmod x21 2) s3) λx60=>
   bC (kS p1 x60) λx61=>
   bC (rc p0 x61) λx64=>
   bC (mkS 1 (p1.length:Int) (false:Bool)) λx67=>
   bC (cntM (iH x21 x61 x64) p1.length 0 (false,x67)) λq5=>
   aft (λr=>some r) (λs6=>
    bif (!s6.1) then
     bC (cntM (j7 p1 x21) p1.length 0 (x24:(List Bool))) λq8=>
     aft (λr=>some r) (λs9=>
      some (s9:(List Bool))) q8
    else
     bC (gJ p0 p1 (IntKind.i64.wrap (1-(Int.tmod x21 2))) s6.2) λx122=>
     bC (kS p1 x122) λx126=>
     bC (rc p0 x126) λx127=>
     bC (cntM (jT x21 x122 x127) p1.length 0 (x24:(List Bool))) λq11=>
     aft (λr=>some r) (λs12=>
      some (s12:(List Bool))) q11) q5) q2
def jq:Nat->l7Game->(List Bool)->Option ((List Bool))
 | 0=>λ_ _=>none
 | n+1=>iF (jq n)
def jF (p1:(List Int)) (x29:l7Game) (x34:(List Bool)) (v10:Int) (s1:Unit):Option (((List Int)×(List Int))⊕((Unit)⊕(Unit))):=
 bC (idx p1 v10) λx45=>
 bC (gv x29 x34 x45) λx47=>
 bif (x47==0) then
  some (.inl ((([]:List Int):(List Int)),(([]:List Int):(List Int))))
 else
  some (.inr (.inr ()))
def jZ (p1:(List Int)) (x53:(List Bool)) (v12:Int) (s4:(List Int)×(List Int)):Option (((List Int)×(List Int))⊕(((List Int)×(List Int))⊕((List Int)×(List Int)))):=
 bC (idx p1 v12) λx63=>
 bC (idx x53 x63) λx65=>
 bC (bif x65 then
  bC (idx p1 v12) λx70=>
  bC (appS 8 s4.1 ([x70]:List Int)) λx73=>
  some (x73,s4.2)
 else
  bC (idx p1 v12) λx77=>
  bC (appS 8 s4.2 ([x77]:List Int)) λx80=>
  some (s4.1,x80)) λq7=>
 some (.inr (.inr (q7.1,q7.2)))
def nJ (p0:Parity) (p1:(List Int)):Option ((List Int)×(List Int)):=
 bC (gx p0) λx16=>
 bC (bif (!x16) then
 some true
 else
 bC (jr p1 (p0.Prio.length:Int)) λx23=>
 some (!x23)) λp25=>
 bif p25 then
  some ((([]:List Int):(List Int)),(([]:List Int):(List Int)))
 else
  bC (nf p0) λx29=>
  bC (mt (p0.Prio.length:Int) p1) λx34=>
  bC (cntM (jF p1 x29 x34) p1.length 0 ()) λq2=>
  aft (λr=>some r) (λs3=>
   bC (jq (2 ^ 64) x29 x34) λx53=>
   bC (cntM (jZ p1 x53) p1.length 0 ((([]:List Int):(List Int)),(([]:List Int):(List Int)))) λq5=>
   aft (λr=>some r) (λs6=>
    some (s6.1,s6.2)) q5) q2
def kI (p0:Sig) (p1:Det) (p2:Int):Option (Int):=
 bC (fi p0 p1) λx18=>
 bC (fl x18.1 x18.2.1 p2) λx26=>
 bif (!x26.2.2) then
  some ((-1):Int)
 else
  bC (mS x26.1) λx35=>
  bC (nJ x26.1 x35) λx36=>
  bC (dH x36.1 0) λx40=>
  bC (fL x40) λx41=>
  some ((IntKind.i64.wrap (1-x41)):Int)
def ju (p0:Sig) (p1:Det):Option (Int):=
 bC (kr p0 p1) λx7=>
 bif (!x7) then
  some ((-1):Int)
 else
  bC (kI p0 p1 0) λx11=>
  some (x11:Int)
def dT (p0:Sig) (p1:(List Clause)):Option (Bool):=
 bC (cZ p0 p1) λx10=>
 bC (bif x10.2 then
 bC (ju p0 x10.1) λx17=>
 some (x17==0)
 else
 some false) λp19=>
 some (p19:Bool)
def jl (p0:Arena) (p1:Int):Option (Bool):=
 bC (bif decide (0<=p1) then
 bC (mf p0) λx10=>
 some (decide (p1<x10))
 else
 some false) λp12=>
 some (p12:Bool)
def iM (p0:Arena) (p1:(List Pair)) (p2:Int):Option (Int):=
 bC (jC p0) λx11=>
 bC (bif (!x11) then
 some true
 else
 bC (mf p0) λx16=>
 bC (iD p1 x16) λx17=>
 some (!x17)) λp19=>
 bC (bif p19 then
 some true
 else
 bC (jl p0 p2) λx23=>
 some (!x23)) λp25=>
 bif p25 then
  some ((-1):Int)
 else
  bC (dy p0 p1 p2) λx30=>
  bif (!x30.2.2) then
   some ((-1):Int)
  else
   bC (er x30.1) λx37=>
   bC (idx x37 0) λx38=>
   some (x38:Int)
def jt (p0:Sig) (p1:Det):Option (Int):=
 bC (lw p0) λx8=>
 bC (bif (!x8) then
 some true
 else
 bC (mV p0 p1) λx13=>
 some (!x13)) λp15=>
 bif p15 then
  some ((-1):Int)
 else
  bC (eF p0 p1) λx19=>
  bC (iM x19.1 x19.2 0) λx24=>
  some (x24:Int)
def dQ (p0:Sig) (p1:(List Clause)):Option (Bool):=
 bC (cV p0 p1) λx10=>
 bC (bif x10.2 then
 bC (jt p0 x10.1) λx17=>
 some (x17==0)
 else
 some false) λp19=>
 some (p19:Bool)
def ku (p0:dice) (p1:Int) (s1:Int×Int×Int×(List Int)):Option ((Word×Int×Int)⊕((Int×Int×Int×(List Int))⊕(Int×Int×Int×(List Int)))):=
 bif decide (0<s1.1) then
  bC (cJ (⟨p0.b,s1.2.1,s1.2.2.1⟩:dice) p1) λx19=>
  bC (appS 8 s1.2.2.2 ([x19.1]:List Int)) λx21=>
  some (.inr (.inr (((IntKind.i64.wrap (s1.1-1)):Int),x19.2.1,x19.2.2,x21)))
 else
  some (.inr (.inl (s1.1,s1.2.1,s1.2.2.1,s1.2.2.2)))
def ko (p0:dice) (p1:Int) (s4:Int×Int×Int×(List Int)):Option ((Word×Int×Int)⊕((Int×Int×Int×(List Int))⊕(Int×Int×Int×(List Int)))):=
 bif decide (0<s4.1) then
  bC (cJ (⟨p0.b,s4.2.1,s4.2.2.1⟩:dice) p1) λx34=>
  bC (appS 8 s4.2.2.2 ([x34.1]:List Int)) λx36=>
  some (.inr (.inr (((IntKind.i64.wrap (s4.1-1)):Int),x34.2.1,x34.2.2,x36)))
 else
  some (.inr (.inl (s4.1,s4.2.1,s4.2.2.1,s4.2.2.2)))
def lS (p0:dice) (p1:Int):Option (Word×Int×Int):=
 bC (cJ p0 4) λx10=>
 bC (ca (ku p0 p1) (2 ^ 64) (x10.1,x10.2.1,x10.2.2,(([]:List Int):(List Int)))) λq2=>
 aft (λr=>some r) (λs3=>
  bC (cJ (⟨p0.b,s3.2.1,s3.2.2.1⟩:dice) 4) λx24=>
  bC (ca (ko p0 p1) (2 ^ 64) (((IntKind.i64.wrap (1+x24.1)):Int),x24.2.1,x24.2.2,(([]:List Int):(List Int)))) λq5=>
  aft (λr=>some r) (λs6=>
   some (((⟨s3.2.2.2,s6.2.2.2⟩:Word):Word),s6.2.1,s6.2.2.1)) q5) q2
def jd (p0:Sig):Option (Int):=
 bC (de p0.In) λx5=>
 some (x5:Int)
def fj (p0:Sig) (p1:Machine) (v6:Int) (s1:Unit):Option (Bool⊕((Unit)⊕(Unit))):=
 bC (idx p1.Next v6) λx37=>
 bC (jd p0) λx41=>
 bC (bif ((x37.length:Int) !=x41) then
 some true
 else
 bC (idx p1.Out v6) λx47=>
 bC (idx p1.Next v6) λx53=>
 some ((x47.length:Int) !=(x53.length:Int))) λp57=>
 bC (bif p57 then
 some true
 else
 bC (idx p1.Next v6) λx62=>
 bC (dS x62 (p1.Next.length:Int)) λx65=>
 some (!x65)) λp67=>
 bC (bif p67 then
 some true
 else
 bC (idx p1.Out v6) λx72=>
 bC (de p0.Out) λx76=>
 bC (dS x72 x76) λx77=>
 some (!x77)) λp79=>
 bif p79 then
  some (.inl (false:Bool))
 else
  some (.inr (.inr ()))
def fH (p0:Sig) (p1:Machine):Option (Bool):=
 bC (ia p0) λx11=>
 bC (bif (!x11) then
 some true
 else
 bC (eI (p1.Next.length:Int) 1 48) λx15=>
 some (!x15)) λp17=>
 bC (bif p17 then
 some true
 else
 some ((p1.Out.length:Int) !=(p1.Next.length:Int))) λp26=>
 bif p26 then
  some (false:Bool)
 else
  bC (cntM (fj p0 p1) p1.Next.length 0 ()) λq2=>
  aft (λr=>some r) (λs3=>
   some (true:Bool)) q2
def gG (p0:Sig) (p1:(List Int)):Option (Bool):=
 bC (bif decide ((p1.length:Int)<=600) then
 bC (jd p0) λx11=>
 bC (dS p1 x11) λx12=>
 some x12
 else
 some false) λp13=>
 some (p13:Bool)
def fE (p0:Machine) (p2:(List Int)) (v7:Int) (s1:Int):Option (Int⊕((Int)⊕(Int))):=
 bC (idx p2 v7) λx21=>
 bC (idx p0.Next s1) λx17=>
 bC (idx x17 x21) λx23=>
 some (.inr (.inr (x23:Int)))
def gE (p0:Machine) (p1:Int) (p2:(List Int)):Option (Int):=
 bC (cntM (fE p0 p2) p2.length 0 (p1:Int)) λq2=>
 aft (λr=>some r) (λs3=>
  some (s3:Int)) q2
def ie (p0:(List Int)) (p1:Int) (v5:Int) (s1:Unit):Option (Int⊕((Unit)⊕(Unit))):=
 bC (idx p0 v5) λx14=>
 bif (x14==p1) then
  some (.inl (v5:Int))
 else
  some (.inr (.inr ()))
def jA (p0:(List Int)) (p1:Int):Option (Int):=
 bC (cntM (ie p0 p1) p0.length 0 ()) λq2=>
 aft (λr=>some r) (λs3=>
  some ((-1):Int)) q2
def eN (p0:Sig) (p1:Machine) (p3:(List Int)) (v10:Int) (s1:Int×(List Int)):Option ((List Int)⊕((Int×(List Int))⊕(Int×(List Int)))):=
 bC (idx p3 v10) λx26=>
 bC (idx p3 v10) λx35=>
 bC (idx p1.Out s1.1) λx22=>
 bC (idx x22 x26) λx28=>
 bC (jd p0) λx31=>
 bC (appS 8 s1.2 ([(IntKind.i64.wrap ((IntKind.i64.wrap (x28 * x31))+x35))]:List Int)) λx39=>
 bC (idx p3 v10) λx47=>
 bC (idx p1.Next s1.1) λx43=>
 bC (idx x43 x47) λx49=>
 some (.inr (.inr (x49,x39)))
def fR (p0:Sig) (p1:Machine) (p2:Int) (p3:(List Int)):Option ((List Int)):=
 bC (cntM (eN p0 p1 p3) p3.length 0 (p2,(([]:List Int):(List Int)))) λq2=>
 aft (λr=>some r) (λs3=>
  some (s3.2:(List Int))) q2
def gO (p1:Machine) (p2:Word) (s1:(List Int)×Int):Option (Word⊕(((List Int)×Int)⊕((List Int)×Int))):=
 bC (jA s1.1 s1.2) λx45=>
 bif decide (x45<0) then
  bC (appS 8 s1.1 ([s1.2]:List Int)) λx50=>
  bC (gE p1 s1.2 p2.Loop) λx55=>
  some (.inr (.inr (x50,x55)))
 else
  some (.inr (.inl (s1.1,s1.2)))
def fQ (p0:Sig) (p1:Machine) (p2:Word) (s3:(List Int)×Int) (x58:Int) (v11:Int) (s4:(List Int)×(List Int)):Option (Word⊕(((List Int)×(List Int))⊕((List Int)×(List Int)))):=
 bC (idx s3.1 v11) λx75=>
 bC (fR p0 p1 x75 p2.Loop) λx79=>
 bC (bif decide (v11<x58) then
  bC (appS 8 s4.1 x79) λx86=>
  some (x86,s4.2)
 else
  bC (appS 8 s4.2 x79) λx91=>
  some (s4.1,x91)) λq7=>
 some (.inr (.inr (q7.1,q7.2)))
def la (p0:Sig) (p1:Machine) (p2:Word):Option (Word):=
 bC (fH p0 p1) λx15=>
 bC (bif (!x15) then
 some true
 else
 bC (gG p0 p2.Stem) λx21=>
 some (!x21)) λp23=>
 bC (bif p23 then
 some true
 else
 bC (gG p0 p2.Loop) λx28=>
 some (!x28)) λp30=>
 bC (bif p30 then
 some true
 else
 some ((p2.Loop.length:Int)==0)) λp36=>
 bif p36 then
  some ((⟨([]:List Int),([]:List Int)⟩:Word):Word)
 else
  bC (gE p1 0 p2.Stem) λx42=>
  bC (ca (gO p1 p2) (2 ^ 64) ((([]:List Int):(List Int)),x42)) λq2=>
  aft (λr=>some r) (λs3=>
   bC (jA s3.1 s3.2) λx58=>
   bC (fR p0 p1 0 p2.Stem) λx63=>
   bC (cntM (fQ p0 p1 p2 s3 x58) s3.1.length 0 (x63,(([]:List Int):(List Int)))) λq5=>
   aft (λr=>some r) (λs6=>
    bC (bif decide (600<(s6.1.length:Int)) then
    some true
    else
    some (decide (600<(s6.2.length:Int)))) λp102=>
    bif p102 then
     some ((⟨([]:List Int),([]:List Int)⟩:Word):Word)
    else
     some ((⟨s6.1,s6.2⟩:Word):Word)) q5) q2
def lh (p0:Word) (p1:Int):Option (Bool):=
 bC (bif decide (600<(p0.Stem.length:Int)) then
 some true
 else
 some (decide (600<(p0.Loop.length:Int)))) λp14=>
 bC (bif p14 then
 some true
 else
 some ((p0.Loop.length:Int)==0)) λp20=>
 bif p20 then
  some (false:Bool)
 else
  bC (dS p0.Stem p1) λx24=>
  bC (bif x24 then
  bC (dS p0.Loop p1) λx29=>
  some x29
  else
  some false) λp30=>
  some (p30:Bool)
def iU (p0:Sig) (p1:Word):Option (Bool):=
 bC (ia p0) λx6=>
 bC (bif x6 then
 bC (cU p0) λx10=>
 bC (lh p1 x10) λx11=>
 some x11
 else
 some false) λp12=>
 some (p12:Bool)
def io (p0:(List Int)) (p1:(List Int)) (v5:Int) (s1:Unit):Option (Bool⊕((Unit)⊕(Unit))):=
 bC (idx p0 v5) λx15=>
 bC (dH p1 x15) λx17=>
 bif (!x17) then
  some (.inl (false:Bool))
 else
  some (.inr (.inr ()))
def jy (p0:(List Int)) (p1:(List Int)):Option (Bool):=
 bC (cntM (io p0 p1) p0.length 0 ()) λq2=>
 aft (λr=>some r) (λs3=>
  some (true:Bool)) q2
def g8 (p0:Clause) (p1:(List Int)) (p2:Int) (v7:Int) (s1:Unit):Option (Bool⊕((Unit)⊕(Unit))):=
 bC (bif decide ((IntKind.i64.wrap (v7+1))<(p1.length:Int)) then
  some ((IntKind.i64.wrap (v7+1)):Int)
 else
  some (p2:Int)) λq4=>
 bC (idx p1 v7) λx27=>
 bC (dH p0.A x27) λx29=>
 bC (bif x29 then
 bC (idx p1 q4) λx35=>
 bC (dH p0.B x35) λx37=>
 some (!x37)
 else
 some false) λp39=>
 bif p39 then
  some (.inl (false:Bool))
 else
  some (.inr (.inr ()))
def kX (p0:Clause) (p1:(List Int)) (p2:Int):Option (Bool):=
 bC (cntM (g8 p0 p1 p2) p1.length 0 ()) λq2=>
 aft (λr=>some r) (λs3=>
  some (true:Bool)) q2
def g9 (p0:(List Int)) (p1:(List Int)) (v5:Int) (s1:Unit):Option (Bool⊕((Unit)⊕(Unit))):=
 bC (idx p0 v5) λx15=>
 bC (dH p1 x15) λx17=>
 bif x17 then
  some (.inl (true:Bool))
 else
  some (.inr (.inr ()))
def fc (p0:(List Int)) (p1:(List Int)):Option (Bool):=
 bC (cntM (g9 p0 p1) p0.length 0 ()) λq2=>
 aft (λr=>some r) (λs3=>
  some (false:Bool)) q2
def fG (p0:Clause) (p2:(List Int)) (v7:Int) (s1:Unit):Option (Bool⊕((Unit)⊕(Unit))):=
 bC (idx p2 v7) λx23=>
 bC (dH p0.A x23) λx25=>
 bC (bif x25 then
 bC (subS p2 v7 (p2.length:Int)) λx29=>
 bC (fc x29 p0.B) λx32=>
 some (!x32)
 else
 some false) λp34=>
 bif p34 then
  some (.inl (false:Bool))
 else
  some (.inr (.inr ()))
def iY (p0:Clause) (p1:Word) (p2:(List Int)):Option (Bool):=
 bC (fc p1.Loop p0.B) λx12=>
 bif x12 then
  some (true:Bool)
 else
  bC (cntM (fG p0 p2) p2.length 0 ()) λq2=>
  aft (λr=>some r) (λs3=>
   some (true:Bool)) q2
def kR (p0:Sig) (p1:Clause) (p2:Word):Option (Bool):=
 bC (gw p0 p1) λx10=>
 bC (bif (!x10) then
 some true
 else
 bC (iU p0 p2) λx15=>
 some (!x15)) λp17=>
 bif p17 then
  some (false:Bool)
 else
  bC (da p2.Stem) λx20=>
  bC (appS 8 x20 p2.Loop) λx23=>
  bif (p1.Kind==1) then
   bC (jy x23 p1.A) λx31=>
   some (x31:Bool)
  else
   bif (p1.Kind==2) then
    bC (kX p1 x23 (p2.Stem.length:Int)) λx39=>
    some (x39:Bool)
   else
    bif (p1.Kind==3) then
     bC (iY p1 p2 x23) λx45=>
     some (x45:Bool)
    else
     bif (p1.Kind==4) then
      bC (fc p2.Loop p1.A) λx52=>
      some (x52:Bool)
     else
      bif (p1.Kind==5) then
       bC (jy p2.Loop p1.A) λx59=>
       some (x59:Bool)
      else
       bif (p1.Kind==6) then
        bC (fc x23 p1.A) λx65=>
        some (x65:Bool)
       else
        bC (fc p2.Loop p1.A) λx70=>
        bC (bif (!x70) then
        some true
        else
        bC (fc p2.Loop p1.B) λx77=>
        some x77) λp78=>
        some (p78:Bool)
def ej (p0:Sig) (p1:(List Clause)) (p2:Word) (v7:Int) (s1:Unit):Option (Int⊕((Unit)⊕(Unit))):=
 bC (idx p1 v7) λx27=>
 bC (kR p0 x27 p2) λx30=>
 bif (!x30) then
  some (.inl (v7:Int))
 else
  some (.inr (.inr ()))
def gb (p0:Sig) (p1:(List Clause)) (p2:Word):Option (Int):=
 bC (eE p0 p1) λx10=>
 bC (bif (!x10) then
 some true
 else
 bC (iU p0 p2) λx15=>
 some (!x15)) λp17=>
 bif p17 then
  some ((-2):Int)
 else
  bC (cntM (ej p0 p1 p2) p1.length 0 ()) λq2=>
  aft (λr=>some r) (λs3=>
   some ((-1):Int)) q2
def mJ (p0:Sig) (p1:(List Clause)) (p2:Word):Option (Bool):=
 bC (gb p0 p1 p2) λx10=>
 some ((x10==(-1)):Bool)
def iP (x13:dice) (x16:(List Clause)×Int×Int) (x20:Machine×Bool) (v8:Int) (s1:Int×Int):Option (Bool⊕((Int×Int)⊕(Int×Int))):=
 bC (lS (⟨x13.b,s1.1,s1.2⟩:dice) 2) λx41=>
 bC (la (⟨1,1⟩:Sig) x20.1 x41.1) λx42=>
 bC (mJ (⟨1,1⟩:Sig) x16.1 x42) λx46=>
 bif (!x46) then
  some (.inl (false:Bool))
 else
  some (.inr (.inr (x41.2.1,x41.2.2)))
def nD (p0:(List Int)):Option (Bool):=
 bC (ug p0) λx11=>
 bif x11 then
  some (true:Bool)
 else
  bC (qg p0 602) λx13=>
  bC (iT x13 2) λx16=>
  bC (gC (⟨1,1⟩:Sig) x16.1) λx20=>
  bC (dT (⟨1,1⟩:Sig) x16.1) λx26=>
  bif (x20.2 !=x26) then
   some (false:Bool)
  else
   bif (!x20.2) then
    bC (dQ (⟨1,1⟩:Sig) x16.1) λx32=>
    some ((!x32):Bool)
   else
    bC (cntM (iP x13 x16 x20) (yG (6-0)) 0 (x16.2.1,x16.2.2)) λq2=>
    aft (λr=>some r) (λs3=>
     bC (fH (⟨1,1⟩:Sig) x20.1) λx50=>
     some (x50:Bool)) q2
def mC  (v4:Int) (s1:(List Int)):Option ((List Int)⊕(((List Int))⊕((List Int)))):=
 bC (appS 8 s1 ([(-1)]:List Int)) λx13=>
 some (.inr (.inr (x13:(List Int))))
def qj (p0:Int):Option ((List Int)):=
 bC (rng p0) λ_=>
 bC (cntM mC (yG (p0-0)) 0 (([]:List Int):(List Int))) λq2=>
 aft (λr=>some r) (λs3=>
  some (s3:(List Int))) q2
def rt (p0:(List Int)) (p1:Int) (v5:Int) (s1:Unit):Option (Bool⊕((Unit)⊕(Unit))):=
 bC (idx p0 v5) λx14=>
 bif (x14==p1) then
  some (.inl (true:Bool))
 else
  some (.inr (.inr ()))
def vh (p0:(List Int)) (p1:Int):Option (Bool):=
 bC (cntM (rt p0 p1) p0.length 0 ()) λq2=>
 aft (λr=>some r) (λs3=>
  some (false:Bool)) q2
def lA (p0:Parity) (p1:(List Int)) (v5:Int) (s1:Unit):Option (Bool⊕((Unit)⊕(Unit))):=
 bC (idx p1 v5) λx20=>
 bC (bif (x20 !=(-1)) then
 bC (idx p1 v5) λx32=>
 bC (idx p0.Arena.Next v5) λx28=>
 bC (vh x28 x32) λx34=>
 some (!x34)
 else
 some false) λp36=>
 bif p36 then
  some (.inl (false:Bool))
 else
  some (.inr (.inr ()))
def oy (p0:Parity) (p1:(List Int)):Option (Bool):=
 bif ((p1.length:Int) !=(p0.Prio.length:Int)) then
  some (false:Bool)
 else
  bC (cntM (lA p0 p1) p1.length 0 ()) λq2=>
  aft (λr=>some r) (λs3=>
   some (true:Bool)) q2
def lT (p0:Parity) (p1:(List Int)) (v7:Int) (s1:(List (List Int))):Option ((Parity×Bool)⊕(((List (List Int)))⊕((List (List Int))))):=
 bC (idx p0.Arena.Next v7) λx38=>
 bC (da x38) λx40=>
 bC (idx p1 v7) λx43=>
 bC (bif decide (0<=x43) then
  bC (idx p1 v7) λx48=>
  some (([x48]:List Int):(List Int))
 else
  some (x40:(List Int))) λq4=>
 bC (appS 24 s1 ([q4]:List (List Int))) λx56=>
 some (.inr (.inr (x56:(List (List Int)))))
def pT (p0:Parity) (p1:(List Int)):Option (Parity×Bool):=
 bC (gx p0) λx10=>
 bC (bif (!x10) then
 some true
 else
 bC (oy p0 p1) λx15=>
 some (!x15)) λp17=>
 bif p17 then
  some (((⟨(⟨([]:List Int),([]:List (List Int))⟩:Arena),([]:List Int)⟩:Parity):Parity),false)
 else
  bC (da p0.Arena.Owner) λx22=>
  bC (da p0.Prio) λx26=>
  bC (cntM (lT p0 p1) p1.length 0 (((⟨(⟨x22,([]:List (List Int))⟩:Arena),x26⟩:Parity).Arena).Next:(List (List Int)))) λq2=>
  aft (λr=>some r) (λs3=>
   some (((⟨(⟨((⟨(⟨x22,([]:List (List Int))⟩:Arena),x26⟩:Parity).Arena).Owner,s3⟩:Arena),(⟨(⟨x22,([]:List (List Int))⟩:Arena),x26⟩:Parity).Prio⟩:Parity):Parity),true)) q2
def nj  (v4:Int) (s1:(List Bool)):Option ((List Bool)⊕(((List Bool))⊕((List Bool)))):=
 bC (idx s1 v4) λx14=>
 bC (setI s1 v4 true) λy501=>
 some (.inr (.inr (y501:(List Bool))))
def rq (p0:Int):Option ((List Bool)):=
 bC (mkS 1 p0 (false:Bool)) λx6=>
 bC (rng p0) λ_=>
 bC (cntM nj (yG (p0-0)) 0 (x6:(List Bool))) λq2=>
 aft (λr=>some r) (λs3=>
  some (s3:(List Bool))) q2
def kb (x12:(List Bool)) (v5:Int) (s1:(List Int)):Option ((List Int)⊕(((List Int))⊕((List Int)))):=
 bC (idx x12 v5) λx23=>
 bC (fL x23) λx25=>
 bC (appS 8 s1 ([(IntKind.i64.wrap (1-x25))]:List Int)) λx28=>
 some (.inr (.inr (x28:(List Int))))
def ir (p0:Parity):Option ((List Int)):=
 bC (nf p0) λx7=>
 bC (rq (p0.Prio.length:Int)) λx11=>
 bC (jq (2 ^ 64) x7 x11) λx12=>
 bC (cntM (kb x12) x12.length 0 (([]:List Int):(List Int))) λq2=>
 aft (λr=>some r) (λs3=>
  some (s3:(List Int))) q2
def mr (p0:(List Int)) (p1:(List Int)) (v5:Int) (s1:Unit):Option (Bool⊕((Unit)⊕(Unit))):=
 bC (idx p0 v5) λx19=>
 bC (idx p1 v5) λx23=>
 bif (x19 !=x23) then
  some (.inl (false:Bool))
 else
  some (.inr (.inr ()))
def qn (p0:(List Int)) (p1:(List Int)):Option (Bool):=
 bif ((p0.length:Int) !=(p1.length:Int)) then
  some (false:Bool)
 else
  bC (cntM (mr p0 p1) p0.length 0 ()) λq2=>
  aft (λr=>some r) (λs3=>
   some (true:Bool)) q2
def nu (p0:Parity) (p1:(List Int)):Option (Bool):=
 bC (pT p0 p1) λx10=>
 bC (bif x10.2 then
 bC (ir x10.1) λx16=>
 bC (ir p0) λx18=>
 bC (qn x16 x18) λx19=>
 some x19
 else
 some false) λp20=>
 some (p20:Bool)
def kD (p0:(List Int)) (p1:Int) (v6:Int) (s1:(List Bool)):Option ((List Bool)⊕(((List Bool))⊕((List Bool)))):=
 bC (idx p0 v6) λx20=>
 bC (idx s1 v6) λx24=>
 bC (setI s1 v6 (x20==p1)) λy513=>
 some (.inr (.inr (y513:(List Bool))))
def iE (p0:(List Int)) (p1:Int):Option ((List Bool)):=
 bC (mkS 1 (p0.length:Int) (false:Bool)) λx9=>
 bC (cntM (kD p0 p1) p0.length 0 (x9:(List Bool))) λq2=>
 aft (λr=>some r) (λs3=>
  some (s3:(List Bool))) q2
def lH (p1:(List Bool)) (p2:Int) (x11:(List Bool)) (v8:Int) (s1:Unit):Option (Bool⊕((Unit)⊕(Unit))):=
 bC (idx p1 v8) λx20=>
 bC (bif x20 then
 bC (idx x11 v8) λx25=>
 some (x25 !=(p2==0))
 else
 some false) λp30=>
 bif p30 then
  some (.inl (false:Bool))
 else
  some (.inr (.inr ()))
def ox (p0:l7Game) (p1:(List Bool)) (p2:Int):Option (Bool):=
 bC (jq (2 ^ 64) p0 p1) λx11=>
 bC (cntM (lH p1 p2 x11) p1.length 0 ()) λq2=>
 aft (λr=>some r) (λs3=>
  some (true:Bool)) q2
def mj (p0:l7Game) (p1:(List Bool)) (p2:Int) (s1:Int×(List Int)):Option ((Int×(List Int))⊕((Int×(List Int))⊕(Int×(List Int)))):=
 bC (idx p0.next p2) λx13=>
 bif decide (s1.1<(x13.length:Int)) then
  bC (idx p0.next p2) λx22=>
  bC (idx x22 s1.1) λx25=>
  bC (idx p1 x25) λx29=>
  bif (!x29) then
   some (.inr (.inr (((IntKind.i64.wrap (s1.1+1)):Int),s1.2)))
  else
   bC (idx s1.2 p2) λx36=>
   bC (setI s1.2 p2 x25) λy516=>
   bC (idx p0.owner p2) λx42=>
   bC (ox (⟨p0.owner,p0.prio,p0.next,p0.prev,y516⟩:l7Game) p1 x42) λx44=>
   bif x44 then
    some (.inl (x25,y516))
   else
    some (.inr (.inr (((IntKind.i64.wrap (s1.1+1)):Int),y516)))
 else
  some (.inr (.inl (s1.1,s1.2)))
def pq (p0:l7Game) (p1:(List Bool)) (p2:Int):Option (Int×(List Int)):=
 bC (ca (mj p0 p1 p2) (2 ^ 64) ((0:Int),p0.pick)) λq2=>
 aft (λr=>some r) (λs3=>
  some (((-1):Int),s3.2)) q2
def kC (p0:Parity) (p1:(List Int)) (x19:(List Int)) (v8:Int) (s1:(List Int)):Option ((Answer×Bool)⊕(((List Int))⊕((List Int)))):=
 bC (idx p1 v8) λx30=>
 bC (bif (x30 !=(-1)) then
 bC (idx x19 v8) λx36=>
 bC (idx p0.Arena.Owner v8) λx42=>
 some (x36 !=x42)
 else
 some false) λp45=>
 bif p45 then
  some (.inl (((⟨([]:List Int),([]:List Int)⟩:Answer):Answer),false))
 else
  bC (idx p1 v8) λx52=>
  bC (idx s1 v8) λx54=>
  bC (setI s1 v8 x52) λy510=>
  some (.inr (.inr (y510:(List Int))))
def kB (p0:Parity) (x19:(List Int)) (x21:l7Game) (x56:(List Bool)) (x58:(List Bool)) (v11:Int) (s4:(List Int)):Option ((Answer×Bool)⊕(((List Int))⊕((List Int)))):=
 bC (idx s4 v11) λx68=>
 bC (bif decide (0<=x68) then
 some true
 else
 bC (idx x19 v11) λx74=>
 bC (idx p0.Arena.Owner v11) λx80=>
 some (x74 !=x80)) λp83=>
 bif p83 then
  some (.inr (.inr (s4:(List Int))))
 else
  bC (idx x19 v11) λx87=>
  bC (bif (x87==1) then
   some (x58:(List Bool))
  else
   some (x56:(List Bool))) λq7=>
  bC (pq (⟨x21.owner,x21.prio,x21.next,x21.prev,s4⟩:l7Game) q7 v11) λx97=>
  bC (idx x97.2 v11) λx98=>
  bC (setI x97.2 v11 x97.1) λy519=>
  some (.inr (.inr (y519:(List Int))))
def nv (p0:Parity) (p1:(List Int)):Option (Answer×Bool):=
 bC (nu p0 p1) λx15=>
 bif (!x15) then
  some (((⟨([]:List Int),([]:List Int)⟩:Answer):Answer),false)
 else
  bC (ir p0) λx19=>
  bC (nf p0) λx21=>
  bC (cntM (kC p0 p1 x19) p1.length 0 (x21.pick:(List Int))) λq2=>
  aft (λr=>some r) (λs3=>
   bC (iE x19 0) λx56=>
   bC (iE x19 1) λx58=>
   bC (cntM (kB p0 x19 x21 x56 x58) x19.length 0 (s3:(List Int))) λq5=>
   aft (λr=>some r) (λs6=>
    some (((⟨x19,s6⟩:Answer):Answer),true)) q5) q2
def pP (p0:Parity):Option (Answer):=
 bC (gx p0) λx6=>
 bif (!x6) then
  some ((⟨([]:List Int),([]:List Int)⟩:Answer):Answer)
 else
  bC (qj (p0.Prio.length:Int)) λx14=>
  bC (nv p0 x14) λx15=>
  some (x15.1:Answer)
end Go.Proofs.YtleekpaohfpooaaGreat
