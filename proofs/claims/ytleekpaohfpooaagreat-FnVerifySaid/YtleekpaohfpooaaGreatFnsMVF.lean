/- The functions on data. By program. -/
import Derived.Test.YtleekpaohfpooaaGreatTypesVF
import Derived.Test.YtleekpaohfpooaaGreatCmpVF
import Derived.Test.YtleekpaohfpooaaGreatCompVF
set_option linter.unusedVariables false
set_option linter.unusedSimpArgs false
open Option renaming bind → bD
open Int renaming toNat → hV
namespace Go.Proofs.YtleekpaohfpooaaGreat
open Go Go.Wk Go.Proofs
set_option maxRecDepth 100000
set_option maxHeartbeats 1000000
def vh (p0:(List Int)):Option (Bool):=
 some (decide (4096<(p0.length:Int)):Bool)
def lR (p0:(List Int)) (a:Int) (s1:Int):Option (dice⊕((Int)⊕(Int))):=
 bD (idx p0 a) λb=>
 some (.inr (.inr ((IntKind.u64.wrap ((IntKind.u64.wrap ((IntKind.u64.wrap (s1 * 1099511628211))+(IntKind.u64.wrap b)))+3)):Int)))
def p5 (p0:(List Int)) (p1:Int):Option (dice):=
 bD (cntM (lR p0) p0.length 0 ((IntKind.u64.wrap ((IntKind.u64.wrap (p1 * 7919))+(IntKind.u64.wrap (p0.length:Int)))):Int)) λa=>
 aft (λr=>some r) (λb=>
  some ((⟨p0,0,b⟩:dice):dice)) a
def cV (p0:dice) (p1:Int):Option (Int×Int×Int):=
 bD (bif decide (p0.i<(p0.b.length:Int)) then
  bD (idx p0.b p0.i) λb=>
  some (((IntKind.i64.wrap ((IntKind.i64.wrap (IntKind.u64.wrap (BitVec.toNat (BitVec.ofInt (IntKind.bits IntKind.u64) (Int.fdiv (IntKind.u64.wrap ((IntKind.u64.wrap (p0.h * 6364136223846793005))+1442695040888963407)) (2 ^ (min (hV 33) (IntKind.bits IntKind.u64)))) &&& BitVec.ofInt (IntKind.bits IntKind.u64) 16777215))))+(IntKind.i64.wrap b))):Int),((IntKind.i64.wrap (p0.i+1)):Int))
 else
  some (((IntKind.i64.wrap (IntKind.u64.wrap (BitVec.toNat (BitVec.ofInt (IntKind.bits IntKind.u64) (Int.fdiv (IntKind.u64.wrap ((IntKind.u64.wrap (p0.h * 6364136223846793005))+1442695040888963407)) (2 ^ (min (hV 33) (IntKind.bits IntKind.u64)))) &&& BitVec.ofInt (IntKind.bits IntKind.u64) 16777215)))):Int),p0.i)) λa=>
 bD (nz p1) λ_z55=>
 some (((Int.tmod a.1 p1):Int),a.2,((IntKind.u64.wrap ((IntKind.u64.wrap (p0.h * 6364136223846793005))+1442695040888963407)):Int))
def gz (p0:dice) (e:Int×Int×Int) (d:Int) (i:Int) (a:(List Int)×(List Int)×Int×Int):Option ((Machine×Int×Int)⊕(((List Int)×(List Int)×Int×Int)⊕((List Int)×(List Int)×Int×Int))):=
 bD (cV (⟨p0.b,a.2.2.1,a.2.2.2⟩:dice) (IntKind.i64.wrap (1+e.1))) λb=>
 bD (appS 8 a.1 ([b.1]:List Int)) λf=>
 bD (cV (⟨p0.b,b.2.1,b.2.2⟩:dice) d) λc=>
 bD (appS 8 a.2.1 ([c.1]:List Int)) λg=>
 some (.inr (.inr (f,g,c.2.1,c.2.2)))
def gx (p0:dice) (f:Int×Int×Int) (c:Int) (d:Int) (j:Int) (a:Int×Int×(List (List Int))×(List (List Int))):Option ((Machine×Int×Int)⊕((Int×Int×(List (List Int))×(List (List Int)))⊕(Int×Int×(List (List Int))×(List (List Int))))):=
 bD (rng c) λ_=>
 bD (cntM (gz p0 f d) (hV (c-0)) 0 ((([]:List Int):(List Int)),(([]:List Int):(List Int)),a.1,a.2.1)) λe=>
 aft (λr=>some (.inl r)) (λb=>
  bD (appS 24 a.2.2.1 ([b.1]:List (List Int))) λg=>
  bD (appS 24 a.2.2.2 ([b.2.1]:List (List Int))) λi=>
  some (.inr (.inr (b.2.2.1,b.2.2.2,g,i)))) e
def j4 (p0:dice) (p1:Sig) (p2:Int):Option (Machine×Int×Int):=
 bD (cV p0 p2) λa=>
 bD (bif (p1.In==2) then
  some (4:Int)
 else
  some (2:Int)) λc=>
 bD (bif (p1.Out==2) then
  some (4:Int)
 else
  some (2:Int)) λd=>
 bD (rng (IntKind.i64.wrap (1+a.1))) λ_=>
 bD (cntM (gx p0 a c d) (hV ((IntKind.i64.wrap (1+a.1))-0)) 0 (a.2.1,a.2.2,(([]:List (List Int)):(List (List Int))),(([]:List (List Int)):(List (List Int))))) λe=>
 aft (λr=>some r) (λb=>
  some (((⟨b.2.2.1,b.2.2.2⟩:Machine):Machine),b.1,b.2.1)) e
def gw (p0:dice) (b:Int×Int×Int) (e:Int) (a:Int×Int×(List Int)×(List Int)):Option (((List Clause)×Int×Int)⊕((Int×Int×(List Int)×(List Int))⊕(Int×Int×(List Int)×(List Int)))):=
 bD (cV (⟨p0.b,a.1,a.2.1⟩:dice) 2) λc=>
 bD (bif (c.1==0) then
  bD (appS 8 a.2.2.1 ([e]:List Int)) λl=>
  some (l:(List Int))
 else
  some (a.2.2.1:(List Int))) λj=>
 bD (cV (⟨p0.b,c.2.1,c.2.2⟩:dice) 2) λd=>
 bD (bif (d.1==0) then
 bD (bif ((IntKind.i64.wrap (1+b.1))==2) then
 some true
 else
 some ((IntKind.i64.wrap (1+b.1))==3)) λf=>
 bD (bif f then
 some true
 else
 some ((IntKind.i64.wrap (1+b.1))==7)) λg=>
 some g
 else
 some false) λi=>
 bD (bif i then
  bD (appS 8 a.2.2.2 ([e]:List Int)) λm=>
  some (m:(List Int))
 else
  some (a.2.2.2:(List Int))) λk=>
 some (.inr (.inr (d.2.1,d.2.2,j,k)))
def gv (p0:dice) (s1:(List Clause)×Int×Int×Int):Option (((List Clause)×Int×Int)⊕(((List Clause)×Int×Int×Int)⊕((List Clause)×Int×Int×Int))):=
 bif decide (0<s1.2.1) then
  bD (cV (⟨p0.b,s1.2.2.1,s1.2.2.2⟩:dice) 7) λb=>
  bD (cntM (gw p0 b) (hV (4-0)) 0 (b.2.1,b.2.2,(([]:List Int):(List Int)),(([]:List Int):(List Int)))) λc=>
  aft (λr=>some (.inl r)) (λa=>
   bD (appS 56 s1.1 ([(⟨(IntKind.i64.wrap (1+b.1)),a.2.2.1,a.2.2.2⟩:Clause)]:List Clause)) λd=>
   some (.inr (.inr (d,((IntKind.i64.wrap (s1.2.1-1)):Int),a.1,a.2.1)))) c
 else
  some (.inr (.inl (s1.1,s1.2.1,s1.2.2.1,s1.2.2.2)))
def jZ (p0:dice) (p1:Int):Option ((List Clause)×Int×Int):=
 bD (cV p0 (IntKind.i64.wrap (p1+1))) λb=>
 bD (cu (gv p0) (2 ^ 64) ((([]:List Clause):(List Clause)),b.1,b.2.1,b.2.2)) λc=>
 aft (λr=>some r) (λa=>
  some (a.1,a.2.2.1,a.2.2.2)) c
def en (p0:Int) (p1:Int) (p2:Int):Option (Bool):=
 bD (bif decide (p1<=p0) then
 some (decide (p0<=p2))
 else
 some false) λa=>
 some (a:Bool)
def jo (p0:Sig):Option (Bool):=
 bD (en p0.In 1 2) λb=>
 bD (bif b then
 bD (en p0.Out 1 2) λc=>
 some c
 else
 some false) λa=>
 some (a:Bool)
def fX  (s1:Int×Int):Option (Int⊕((Int×Int)⊕(Int×Int))):=
 bif decide (0<s1.1) then
  some (.inr (.inr (((IntKind.i64.wrap (s1.1-1)):Int),((IntKind.i64.wrap (s1.2 * 2)):Int))))
 else
  some (.inr (.inl (s1.1,s1.2)))
def dF (p0:Int):Option (Int):=
 bD (cu fX (2 ^ 64) (p0,(1:Int))) λa=>
 aft (λr=>some r) (λb=>
  some (b.2:Int)) a
def dx (p0:Sig):Option (Int):=
 bD (jo p0) λb=>
 bif (!b) then
  some (0:Int)
 else
  bD (dF (IntKind.i64.wrap (p0.In+p0.Out))) λa=>
  some (a:Int)
def jv (p0:(List Int)) (p1:Int) (a:Int) (s1:Unit):Option (Bool⊕((Unit)⊕(Unit))):=
 bD (idx p0 a) λd=>
 bD (en d 0 (IntKind.i64.wrap (p1-1))) λe=>
 bD (bif (!e) then
 some true
 else
 bD (bif decide (0<a) then
 bD (idx p0 a) λf=>
 bD (idx p0 (IntKind.i64.wrap (a-1))) λg=>
 some (decide (f<=g))
 else
 some false) λb=>
 some b) λc=>
 bif c then
  some (.inl (false:Bool))
 else
  some (.inr (.inr ()))
def lZ (p0:(List Int)) (p1:Int):Option (Bool):=
 bD (cntM (jv p0 p1) p0.length 0 ()) λa=>
 aft (λr=>some r) (λb=>
  some (true:Bool)) a
def lD (p0:(List Int)) (p1:Int):Option (Bool):=
 bD (bif decide ((p0.length:Int)<=p1) then
 bD (lZ p0 p1) λb=>
 some b
 else
 some false) λa=>
 some (a:Bool)
def nI (p0:Int):Option (Bool):=
 bD (bif (p0==2) then
 some true
 else
 some (p0==3)) λb=>
 bD (bif b then
 some true
 else
 some (p0==7)) λa=>
 some (a:Bool)
def iI (p0:Sig) (p1:Clause):Option (Bool):=
 bD (jo p0) λk=>
 bD (bif (!k) then
 some true
 else
 bD (en p1.Kind 1 7) λf=>
 some (!f)) λb=>
 bif b then
  some (false:Bool)
 else
  bD (dx p0) λa=>
  bD (lD p1.A a) λg=>
  bD (bif g then
  bD (lD p1.B a) λi=>
  some i
  else
  some false) λc=>
  bD (bif c then
  bD (nI p1.Kind) λj=>
  bD (bif j then
  some true
  else
  some ((p1.B.length:Int)==0)) λd=>
  some d
  else
  some false) λe=>
  some (e:Bool)
def gC (p0:Sig) (p1:(List Clause)) (a:Int) (s1:Unit):Option (Bool⊕((Unit)⊕(Unit))):=
 bD (idx p1 a) λb=>
 bD (iI p0 b) λc=>
 bif (!c) then
  some (.inl (false:Bool))
 else
  some (.inr (.inr ()))
def d9 (p0:Sig) (p1:(List Clause)):Option (Bool):=
 bD (jo p0) λc=>
 bD (bif (!c) then
 some true
 else
 some (decide (3<(p1.length:Int)))) λa=>
 bif a then
  some (false:Bool)
 else
  bD (cntM (gC p0 p1) p1.length 0 ()) λb=>
  aft (λr=>some r) (λd=>
   some (true:Bool)) b
def l9 (p0:Int):Option (Pair):=
 bD (bif (p0==1) then
  some (true:Bool)
 else
  some ((p0==5):Bool)) λa=>
 bif a then
  some ((⟨([1]:List Int),([]:List Int)⟩:Pair):Pair)
 else
  bif (p0==2) then
   some ((⟨([2]:List Int),([]:List Int)⟩:Pair):Pair)
  else
   bif (p0==3) then
    some ((⟨([1]:List Int),([0]:List Int)⟩:Pair):Pair)
   else
    bif (p0==4) then
     some ((⟨([0,1]:List Int),([1]:List Int)⟩:Pair):Pair)
    else
     bif (p0==6) then
      some ((⟨([0]:List Int),([]:List Int)⟩:Pair):Pair)
     else
      some ((⟨([2,3]:List Int),([1,3]:List Int)⟩:Pair):Pair)
def kc (p0:Int):Option (Int):=
 bif (p0==2) then
  some (3:Int)
 else
  bif (p0==7) then
   some (4:Int)
  else
   some (2:Int)
def fE (p0:(List Int)) (p1:Int) (a:Int) (s1:Unit):Option (Bool⊕((Unit)⊕(Unit))):=
 bD (idx p0 a) λb=>
 bif (b==p1) then
  some (.inl (true:Bool))
 else
  some (.inr (.inr ()))
def dZ (p0:(List Int)) (p1:Int):Option (Bool):=
 bD (cntM (fE p0 p1) p0.length 0 ()) λa=>
 aft (λr=>some r) (λb=>
  some (false:Bool)) a
def jt (p0:Bool):Option (Int):=
 bif p0 then
  some (1:Int)
 else
  some (0:Int)
def kp (p0:Int) (p1:Int):Option (Int):=
 bif decide (p1<p0) then
  some (p0:Int)
 else
  some (p1:Int)
def l8 (p0:Clause) (p1:Int) (p2:Int):Option (Int):=
 bD (dZ p0.A p2) λe=>
 bD (jt e) λa=>
 bD (dZ p0.B p2) λf=>
 bD (jt f) λb=>
 bif (p0.Kind==1) then
  bD (kp p1 (IntKind.i64.wrap (1-a))) λg=>
  some (g:Int)
 else
  bif (p0.Kind==2) then
   bD (bif (p1==2) then
   some true
   else
   bD (bif (p1==1) then
   some (b==0)
   else
   some false) λc=>
   some c) λd=>
   bif d then
    some (2:Int)
   else
    some (a:Int)
  else
   bif (p0.Kind==3) then
    bif (b==1) then
     some (0:Int)
    else
     bD (kp p1 a) λi=>
     some (i:Int)
   else
    bif (p0.Kind==4) then
     some (a:Int)
    else
     bif (p0.Kind==5) then
      some ((IntKind.i64.wrap (1-a)):Int)
     else
      bif (p0.Kind==6) then
       bD (kp p1 a) λj=>
       some (j:Int)
      else
       some ((IntKind.i64.wrap ((IntKind.i64.wrap (2 * a))+b)):Int)
def gG (p0:Sig) (p1:Clause) (s1:Int×(List (List Int))) (a:(List Int)×Int):Option (Det⊕(((List Int)×Int)⊕((List Int)×Int))):=
 bD (dx p0) λb=>
 bif decide (a.2<b) then
  bD (l8 p1 s1.1 a.2) λc=>
  bD (appS 8 a.1 ([c]:List Int)) λd=>
  some (.inr (.inr (d,((IntKind.i64.wrap (a.2+1)):Int))))
 else
  some (.inr (.inl (a.1,a.2)))
def gF (p0:Sig) (p1:Clause) (s1:Int×(List (List Int))):Option (Det⊕((Int×(List (List Int)))⊕(Int×(List (List Int))))):=
 bD (kc p1.Kind) λc=>
 bif decide (s1.1<c) then
  bD (cu (gG p0 p1 s1) (2 ^ 64) ((([]:List Int):(List Int)),(0:Int))) λa=>
  aft (λr=>some (.inl r)) (λb=>
   bD (appS 24 s1.2 ([b.1]:List (List Int))) λd=>
   some (.inr (.inr (((IntKind.i64.wrap (s1.1+1)):Int),d)))) a
 else
  some (.inr (.inl (s1.1,s1.2)))
def j6 (p0:Sig) (p1:Clause):Option (Det):=
 bD (iI p0 p1) λc=>
 bif (!c) then
  some ((⟨([]:List (List Int)),([]:List Pair)⟩:Det):Det)
 else
  bD (l9 p1.Kind) λd=>
  bD (cu (gF p0 p1) (2 ^ 64) ((0:Int),(([]:List (List Int)):(List (List Int))))) λa=>
  aft (λr=>some r) (λb=>
   some ((⟨b.2,([d]:List Pair)⟩:Det):Det)) a
def iy (p0:(List Int)) (p1:Int) (a:Int) (s1:Unit):Option (Bool⊕((Unit)⊕(Unit))):=
 bD (idx p0 a) λb=>
 bD (en b 0 (IntKind.i64.wrap (p1-1))) λc=>
 bif (!c) then
  some (.inl (false:Bool))
 else
  some (.inr (.inr ()))
def eO (p0:(List Int)) (p1:Int):Option (Bool):=
 bD (cntM (iy p0 p1) p0.length 0 ()) λa=>
 aft (λr=>some r) (λb=>
  some (true:Bool)) a
def lC (p0:(List Int)) (p1:Int):Option (Bool):=
 bD (en p1 0 256) λc=>
 bD (bif c then
 bD (lD p0 p1) λb=>
 some b
 else
 some false) λa=>
 some (a:Bool)
def jn (p0:(List Pair)) (p1:Int) (a:Int) (s1:Unit):Option (Bool⊕((Unit)⊕(Unit))):=
 bD (idx p0 a) λc=>
 bD (lC c.Ask p1) λd=>
 bD (bif (!d) then
 some true
 else
 bD (idx p0 a) λe=>
 bD (lC e.Give p1) λf=>
 some (!f)) λb=>
 bif b then
  some (.inl (false:Bool))
 else
  some (.inr (.inr ()))
def kA (p0:(List Pair)) (p1:Int):Option (Bool):=
 bD (en p1 0 256) λc=>
 bD (bif (!c) then
 some true
 else
 some (decide (4<(p0.length:Int)))) λa=>
 bif a then
  some (false:Bool)
 else
  bD (cntM (jn p0 p1) p0.length 0 ()) λb=>
  aft (λr=>some r) (λd=>
   some (true:Bool)) b
def kO (p0:Sig) (p1:Det) (a:Int) (s1:Unit):Option (Bool⊕((Unit)⊕(Unit))):=
 bD (idx p1.Next a) λc=>
 bD (dx p0) λd=>
 bD (bif ((c.length:Int) !=d) then
 some true
 else
 bD (idx p1.Next a) λe=>
 bD (eO e (p1.Next.length:Int)) λf=>
 some (!f)) λb=>
 bif b then
  some (.inl (false:Bool))
 else
  some (.inr (.inr ()))
def jU (p0:Sig) (p1:Det):Option (Bool):=
 bD (jo p0) λc=>
 bD (bif (!c) then
 some true
 else
 bD (en (p1.Next.length:Int) 1 48) λd=>
 some (!d)) λa=>
 bif a then
  some (false:Bool)
 else
  bD (cntM (kO p0 p1) p1.Next.length 0 ()) λb=>
  aft (λr=>some r) (λf=>
   bD (kA p1.Pairs (p1.Next.length:Int)) λe=>
   some (e:Bool)) b
def iB (p0:(List (List Int))) (p1:Int) (p2:Int) (a:Int) (s1:Unit):Option (Int⊕((Unit)⊕(Unit))):=
 bD (idx p0 a) λc=>
 bD (idx c 0) λd=>
 bD (bif (d==p1) then
 bD (idx p0 a) λe=>
 bD (idx e 1) λf=>
 some (f==p2)
 else
 some false) λb=>
 bif b then
  some (.inl (a:Int))
 else
  some (.inr (.inr ()))
def kW (p0:(List (List Int))) (p1:Int) (p2:Int):Option (Int):=
 bD (cntM (iB p0 p1 p2) p0.length 0 ()) λa=>
 aft (λr=>some r) (λb=>
  some ((-1):Int)) a
def iA (p0:(List Pair)) (p1:(List (List Int))) (p2:Int) (c:Int) (b:Int) (a:(List Int)×(List Int)):Option ((List Pair)⊕(((List Int)×(List Int))⊕((List Int)×(List Int)))):=
 bD (idx p0 c) λf=>
 bD (idx p1 b) λg=>
 bD (idx g p2) λi=>
 bD (dZ f.Ask i) λj=>
 bD (bif j then
  bD (appS 8 a.1 ([b]:List Int)) λk=>
  some (k:(List Int))
 else
  some (a.1:(List Int))) λd=>
 bD (idx p0 c) λl=>
 bD (idx p1 b) λm=>
 bD (idx m p2) λn=>
 bD (dZ l.Give n) λo=>
 bD (bif o then
  bD (appS 8 a.2 ([b]:List Int)) λp=>
  some (p:(List Int))
 else
  some (a.2:(List Int))) λe=>
 some (.inr (.inr (d,e)))
def iz (p0:(List Pair)) (p1:(List (List Int))) (p2:Int) (c:Int) (s1:(List Pair)):Option ((List Pair)⊕(((List Pair))⊕((List Pair)))):=
 bD (cntM (iA p0 p1 p2 c) p1.length 0 ((([]:List Int):(List Int)),(([]:List Int):(List Int)))) λb=>
 aft (λr=>some (.inl r)) (λa=>
  bD (appS 48 s1 ([(⟨a.1,a.2⟩:Pair)]:List Pair)) λd=>
  some (.inr (.inr (d:(List Pair))))) b
def jN (p0:(List Pair)) (p1:(List (List Int))) (p2:Int):Option ((List Pair)):=
 bD (cntM (iz p0 p1 p2) p0.length 0 (([]:List Pair):(List Pair))) λa=>
 aft (λr=>some r) (λb=>
  some (b:(List Pair))) a
def fk (p0:Det) (p1:Det) (s1:(List (List Int))×Int×(List (List Int))) (c:Int) (a:(List (List Int))×(List Int)):Option ((Det×Bool)⊕(((List (List Int))×(List Int))⊕((List (List Int))×(List Int)))):=
 bD (idx a.1 s1.2.1) λg=>
 bD (idx g 0) λi=>
 bD (idx p0.Next i) λj=>
 bD (idx j c) λd=>
 bD (idx a.1 s1.2.1) λk=>
 bD (idx k 1) λl=>
 bD (idx p1.Next l) λm=>
 bD (idx m c) λe=>
 bD (kW a.1 d e) λf=>
 bD (bif decide (f<0) then
  bD (appS 24 a.1 ([([d,e]:List Int)]:List (List Int))) λn=>
  some (n,((a.1.length:Int):Int))
 else
  some (a.1,f)) λb=>
 bD (appS 8 a.2 ([b.2]:List Int)) λo=>
 some (.inr (.inr (b.1,o)))
def gM (p0:Det) (p1:Det) (p2:Int) (s1:(List (List Int))×Int×(List (List Int))):Option ((Det×Bool)⊕(((List (List Int))×Int×(List (List Int)))⊕((List (List Int))×Int×(List (List Int))))):=
 bif decide (s1.2.1<(s1.1.length:Int)) then
  bD (rng p2) λ_=>
  bD (cntM (fk p0 p1 s1) (hV (p2-0)) 0 (s1.1,(([]:List Int):(List Int)))) λb=>
  aft (λr=>some (.inl r)) (λa=>
   bif decide (48<(a.1.length:Int)) then
    some (.inl (((⟨([]:List (List Int)),([]:List Pair)⟩:Det):Det),false))
   else
    bD (appS 24 s1.2.2 ([a.2]:List (List Int))) λc=>
    some (.inr (.inr (a.1,((IntKind.i64.wrap (s1.2.1+1)):Int),c)))) b
 else
  some (.inr (.inl (s1.1,s1.2.1,s1.2.2)))
def fu (p0:Det) (p1:Det) (p2:Int):Option (Det×Bool):=
 bD (cu (gM p0 p1 p2) (2 ^ 64) ((([([0,0]:List Int)]:List (List Int)):(List (List Int))),(0:Int),(([]:List (List Int)):(List (List Int))))) λb=>
 aft (λr=>some r) (λa=>
  bD (jN p0.Pairs a.1 0) λc=>
  bD (jN p1.Pairs a.1 1) λd=>
  bD (appS 48 c d) λe=>
  some (((⟨a.2.2,e⟩:Det):Det),true)) b
def j5 (p0:Sig) (p1:Det) (p2:Det):Option (Det×Bool):=
 bD (jU p0 p1) λd=>
 bD (bif (!d) then
 some true
 else
 bD (jU p0 p2) λe=>
 some (!e)) λb=>
 bD (bif b then
 some true
 else
 some (decide (4<(IntKind.i64.wrap ((p1.Pairs.length:Int)+(p2.Pairs.length:Int)))))) λc=>
 bif c then
  some (((⟨([]:List (List Int)),([]:List Pair)⟩:Det):Det),false)
 else
  bD (dx p0) λf=>
  bD (fu p1 p2 f) λa=>
  some (a.1,a.2)
def fi (p0:Sig) (p1:(List Clause)) (b:Int) (s1:(List (List Int))×(List Pair)):Option ((Det×Bool)⊕(((List (List Int))×(List Pair))⊕((List (List Int))×(List Pair)))):=
 bD (idx p1 b) λc=>
 bD (j6 p0 c) λd=>
 bD (j5 p0 (⟨s1.1,s1.2⟩:Det) d) λa=>
 bif (!a.2) then
  some (.inl (((⟨([]:List (List Int)),([]:List Pair)⟩:Det):Det),false))
 else
  some (.inr (.inr (a.1.Next,a.1.Pairs)))
def da (p0:Sig) (p1:(List Clause)):Option (Det×Bool):=
 bD (d9 p0 p1) λc=>
 bif (!c) then
  some (((⟨([]:List (List Int)),([]:List Pair)⟩:Det):Det),false)
 else
  bD (dx p0) λd=>
  bD (mkS 8 d (0:Int)) λe=>
  bD (cntM (fi p0 p1) p1.length 0 ((([e]:List (List Int)):(List (List Int))),(([]:List Pair):(List Pair)))) λb=>
  aft (λr=>some r) (λa=>
   some (((⟨a.1,a.2⟩:Det):Det),true)) b
def ec (p0:Sig):Option (Int):=
 bD (dF p0.In) λa=>
 some (a:Int)
def jK (p0:Sig) (p1:Int) (p2:Int):Option (Int):=
 bD (jo p0) λi=>
 bD (bif (!i) then
 some true
 else
 bD (dF p0.In) λc=>
 bD (en p1 0 (IntKind.i64.wrap (c-1))) λd=>
 some (!d)) λa=>
 bD (bif a then
 some true
 else
 bD (dF p0.Out) λe=>
 bD (en p2 0 (IntKind.i64.wrap (e-1))) λf=>
 some (!f)) λb=>
 bif b then
  some ((-1):Int)
 else
  bD (dF p0.In) λg=>
  some ((IntKind.i64.wrap ((IntKind.i64.wrap (p2 * g))+p1)):Int)
def dw (p0:(List Int)):Option ((List Int)):=
 bD (appS 8 ([]:List Int) p0) λa=>
 some (a:(List Int))
def gL (p0:(List Int)) (p1:Int) (s1:Int):Option ((List Int)⊕((Int)⊕(Int))):=
 bD (bif decide (s1<(p0.length:Int)) then
 bD (idx p0 s1) λb=>
 some (decide (b<p1))
 else
 some false) λa=>
 bif a then
  some (.inr (.inr ((IntKind.i64.wrap (s1+1)):Int)))
 else
  some (.inr (.inl (s1:Int)))
def kb (p0:(List Int)) (p1:Int):Option ((List Int)):=
 bD (cu (gL p0 p1) (2 ^ 64) (0:Int)) λc=>
 aft (λr=>some r) (λa=>
  bD (bif decide (a<(p0.length:Int)) then
  bD (idx p0 a) λd=>
  some (d==p1)
  else
  some false) λb=>
  bif b then
   some (p0:(List Int))
  else
   bD (subS p0 0 a) λe=>
   bD (dw e) λf=>
   bD (appS 8 f ([p1]:List Int)) λg=>
   bD (subS p0 a (p0.length:Int)) λi=>
   bD (appS 8 g i) λj=>
   some (j:(List Int))) c
def iC (p0:Sig) (p1:Det) (p2:Int) (p3:Int) (s1:(List Int)×Int):Option ((List Int)⊕(((List Int)×Int)⊕((List Int)×Int))):=
 bD (dF p0.Out) λa=>
 bif decide (s1.2<a) then
  bD (idx p1.Next p2) λb=>
  bD (jK p0 p3 s1.2) λc=>
  bD (idx b c) λd=>
  bD (kb s1.1 d) λe=>
  some (.inr (.inr (e,((IntKind.i64.wrap (s1.2+1)):Int))))
 else
  some (.inr (.inl (s1.1,s1.2)))
def kX (p0:Sig) (p1:Det) (p2:Int) (p3:Int):Option ((List Int)):=
 bD (cu (iC p0 p1 p2 p3) (2 ^ 64) ((([]:List Int):(List Int)),(0:Int))) λa=>
 aft (λr=>some r) (λb=>
  some (b.1:(List Int))) a
def fc (p1:Det) (d:Int) (b:Int) (c:Int) (a:(List Int)):Option ((Arena×(List Pair)×Bool)⊕(((List Int))⊕((List Int)))):=
 bD (appS 8 a ([(IntKind.i64.wrap ((IntKind.i64.wrap ((p1.Next.length:Int)+(IntKind.i64.wrap (b * d))))+c))]:List Int)) λe=>
 some (.inr (.inr (e:(List Int))))
def fb (p1:Det) (a:Int) (d:Int) (s1:(List Int)×(List (List Int))):Option ((Arena×(List Pair)×Bool)⊕(((List Int)×(List (List Int)))⊕((List Int)×(List (List Int))))):=
 bD (rng a) λ_=>
 bD (cntM (fc p1 a d) (hV (a-0)) 0 (([]:List Int):(List Int))) λb=>
 aft (λr=>some (.inl r)) (λc=>
  bD (appS 8 s1.1 ([1]:List Int)) λe=>
  bD (appS 24 s1.2 ([c]:List (List Int))) λf=>
  some (.inr (.inr (e,f)))) b
def ff (p0:Sig) (p1:Det) (b:Int) (c:Int) (a:(List Int)×(List (List Int))):Option ((Arena×(List Pair)×Bool)⊕(((List Int)×(List (List Int)))⊕((List Int)×(List (List Int))))):=
 bD (appS 8 a.1 ([0]:List Int)) λd=>
 bD (kX p0 p1 b c) λe=>
 bD (appS 24 a.2 ([e]:List (List Int))) λf=>
 some (.inr (.inr (d,f)))
def fd (p0:Sig) (p1:Det) (c:Int) (e:Int) (b:(List Int)×(List (List Int))):Option ((Arena×(List Pair)×Bool)⊕(((List Int)×(List (List Int)))⊕((List Int)×(List (List Int))))):=
 bD (rng c) λ_=>
 bD (cntM (ff p0 p1 e) (hV (c-0)) 0 (b.1,b.2)) λd=>
 aft (λr=>some (.inl r)) (λa=>
  some (.inr (.inr (a.1,a.2)))) d
def fg (p1:Det) (a:Int) (b:(List Pair)):Option ((Arena×(List Pair)×Bool)⊕(((List Pair))⊕((List Pair)))):=
 bD (idx p1.Pairs a) λg=>
 bD (idx p1.Pairs a) λd=>
 bD (dw g.Ask) λc=>
 bD (dw d.Give) λe=>
 bD (appS 48 b ([(⟨c,e⟩:Pair)]:List Pair)) λf=>
 some (.inr (.inr (f:(List Pair))))
def iV (p0:Sig) (p1:Det):Option (Arena×(List Pair)×Bool):=
 bD (jU p0 p1) λi=>
 bif (!i) then
  some (((⟨([]:List Int),([]:List (List Int))⟩:Arena):Arena),(([]:List Pair):(List Pair)),false)
 else
  bD (ec p0) λc=>
  bD (cntM (fb p1 c) p1.Next.length 0 ((([]:List Int):(List Int)),(([]:List (List Int)):(List (List Int))))) λe=>
  aft (λr=>some r) (λa=>
   bD (cntM (fd p0 p1 c) p1.Next.length 0 (a.1,a.2)) λf=>
   aft (λr=>some r) (λb=>
    bD (cntM (fg p1) p1.Pairs.length 0 (([]:List Pair):(List Pair))) λd=>
    aft (λr=>some r) (λg=>
     some (((⟨b.1,b.2⟩:Arena):Arena),g,true)) d) f) e
def jm (p0:Arena) (a:Int) (s1:Unit):Option (Bool⊕((Unit)⊕(Unit))):=
 bD (idx p0.Owner a) λe=>
 bD (en e 0 1) λf=>
 bD (bif (!f) then
 some true
 else
 bD (idx p0.Next a) λg=>
 some (decide ((g.length:Int)<1))) λb=>
 bD (bif b then
 some true
 else
 bD (idx p0.Next a) λi=>
 some (decide (16<(i.length:Int)))) λc=>
 bD (bif c then
 some true
 else
 bD (idx p0.Next a) λj=>
 bD (lD j (p0.Owner.length:Int)) λk=>
 some (!k)) λd=>
 bif d then
  some (.inl (false:Bool))
 else
  some (.inr (.inr ()))
def kz (p0:Arena):Option (Bool):=
 bD (en (p0.Owner.length:Int) 1 256) λc=>
 bD (bif (!c) then
 some true
 else
 some ((p0.Next.length:Int) !=(p0.Owner.length:Int))) λa=>
 bif a then
  some (false:Bool)
 else
  bD (cntM (jm p0) p0.Owner.length 0 ()) λb=>
  aft (λr=>some r) (λd=>
   some (true:Bool)) b
def j9 (p0:(List Int)) (p1:Int) (a:Int) (s1:Unit):Option (Bool⊕((Unit)⊕(Unit))):=
 bD (idx p0 a) λb=>
 bif (b==p1) then
  some (.inl (true:Bool))
 else
  some (.inr (.inr ()))
def kV (p0:(List Int)) (p1:Int):Option (Bool):=
 bD (cntM (j9 p0 p1) p0.length 0 ()) λa=>
 aft (λr=>some r) (λb=>
  some (false:Bool)) a
def jr (p0:(List Pair)) (p1:(List Int)) (p2:Int) (a:Int) (s1:(List Int)×(List Int)):Option ((List Int)⊕(((List Int)×(List Int))⊕((List Int)×(List Int)))):=
 bD (idx p1 a) λc=>
 bD (idx p0 c) λd=>
 bD (kV d.Give p2) λe=>
 bD (bif e then
  bD (idx p1 a) λf=>
  bD (appS 8 s1.1 ([f]:List Int)) λg=>
  some (g,s1.2)
 else
  bD (idx p1 a) λi=>
  bD (appS 8 s1.2 ([i]:List Int)) λj=>
  some (s1.1,j)) λb=>
 some (.inr (.inr (b.1,b.2)))
def lX (p0:(List Pair)) (p1:(List Int)) (p2:Int):Option ((List Int)):=
 bD (cntM (jr p0 p1 p2) p1.length 0 ((([]:List Int):(List Int)),(([]:List Int):(List Int)))) λb=>
 aft (λr=>some r) (λa=>
  bD (appS 8 a.1 a.2) λc=>
  some (c:(List Int))) b
def fj (p0:(List Int)) (p1:(List Int)) (a:Int) (s1:Unit):Option (Bool⊕((Unit)⊕(Unit))):=
 bD (idx p0 a) λb=>
 bD (idx p1 a) λc=>
 bif (b !=c) then
  some (.inl (false:Bool))
 else
  some (.inr (.inr ()))
def iw (p0:(List Int)) (p1:(List Int)):Option (Bool):=
 bif ((p0.length:Int) !=(p1.length:Int)) then
  some (false:Bool)
 else
  bD (cntM (fj p0 p1) p0.length 0 ()) λa=>
  aft (λr=>some r) (λb=>
   some (true:Bool)) a
def jq (p0:(List Place)) (p1:Int) (p2:(List Int)) (a:Int) (s1:Unit):Option (Int⊕((Unit)⊕(Unit))):=
 bD (idx p0 a) λc=>
 bD (bif (c.At==p1) then
 bD (idx p0 a) λd=>
 bD (iw d.Record p2) λe=>
 some e
 else
 some false) λb=>
 bif b then
  some (.inl (a:Int))
 else
  some (.inr (.inr ()))
def lW (p0:(List Place)) (p1:Int) (p2:(List Int)):Option (Int):=
 bD (cntM (jq p0 p1 p2) p0.length 0 ()) λa=>
 aft (λr=>some r) (λb=>
  some ((-1):Int)) a
def gK (p0:(List Int)) (c:Int) (s1:(List Int)) (a:Int):Option ((List Int)⊕((Int)⊕(Int))):=
 bD (bif decide (0<a) then
 bD (idx s1 (IntKind.i64.wrap (a-1))) λd=>
 bD (idx p0 c) λe=>
 some (decide (e<d))
 else
 some false) λb=>
 bif b then
  some (.inr (.inr ((IntKind.i64.wrap (a-1)):Int)))
 else
  some (.inr (.inl (a:Int)))
def gJ (p0:(List Int)) (b:Int) (s1:(List Int)):Option ((List Int)⊕(((List Int))⊕((List Int)))):=
 bD (cu (gK p0 b s1) (2 ^ 64) ((s1.length:Int):Int)) λc=>
 aft (λr=>some (.inl r)) (λa=>
  bD (subS s1 0 a) λd=>
  bD (appS 8 ([]:List Int) d) λe=>
  bD (idx p0 b) λf=>
  bD (appS 8 e ([f]:List Int)) λg=>
  bD (subS s1 a (s1.length:Int)) λi=>
  bD (appS 8 g i) λj=>
  some (.inr (.inr (j:(List Int))))) c
def ka (p0:(List Int)):Option ((List Int)):=
 bD (cntM (gJ p0) p0.length 0 (([]:List Int):(List Int))) λa=>
 aft (λr=>some r) (λb=>
  some (b:(List Int))) a
def js (p0:(List Pair)) (p1:(List Int)) (p2:Int) (a:Int) (s1:Int×Int):Option (Int⊕((Int×Int)⊕(Int×Int))):=
 bD (idx p1 a) λd=>
 bD (idx p0 d) λe=>
 bD (kV e.Ask p2) λf=>
 bD (bif f then
  some (a:Int)
 else
  some (s1.1:Int)) λb=>
 bD (idx p1 a) λg=>
 bD (idx p0 g) λi=>
 bD (kV i.Give p2) λj=>
 bD (bif j then
  some (a:Int)
 else
  some (s1.2:Int)) λc=>
 some (.inr (.inr (b,c)))
def lY (p0:(List Pair)) (p1:(List Int)) (p2:Int):Option (Int):=
 bD (cntM (js p0 p1 p2) p1.length 0 (((-1):Int),((-1):Int))) λc=>
 aft (λr=>some r) (λa=>
  bD (bif decide (a.1<0) then
  some (decide (a.2<0))
  else
  some false) λb=>
  bif b then
   some (0:Int)
  else
   bif decide (a.2<a.1) then
    some ((IntKind.i64.wrap ((IntKind.i64.wrap (2 * a.1))+1)):Int)
   else
    some ((IntKind.i64.wrap ((IntKind.i64.wrap (2 * a.2))+2)):Int)) c
def eK  (a:Int) (s1:(List Int)):Option ((Parity×(List Place)×Bool)⊕(((List Int))⊕((List Int)))):=
 bD (appS 8 s1 ([a]:List Int)) λb=>
 some (.inr (.inr (b:(List Int))))
def fU (p0:Arena) (b:Place) (c:(List Int)) (a:(List Place)×(List Int)×Int):Option ((Parity×(List Place)×Bool)⊕(((List Place)×(List Int)×Int)⊕((List Place)×(List Int)×Int))):=
 bD (idx p0.Next b.At) λl=>
 bif decide (a.2.2<(l.length:Int)) then
  bD (idx p0.Next b.At) λm=>
  bD (idx m a.2.2) λd=>
  bD (lW a.1 d c) λe=>
  bD (bif decide (e<0) then
   bif decide (256<=(a.1.length:Int)) then
    some (.inl (((⟨(⟨([]:List Int),([]:List (List Int))⟩:Arena),([]:List Int)⟩:Parity):Parity),(([]:List Place):(List Place)),false))
   else
    bD (appS 8 ([]:List Int) c) λi=>
    bD (appS 32 a.1 ([(⟨d,i⟩:Place)]:List Place)) λj=>
    some (.inr (j,((a.1.length:Int):Int)))
  else
   some (.inr (a.1,e)):Option ((Parity×(List Place)×Bool)⊕((List Place)×Int))) λg=>
  aft (λr=>some (.inl r)) (λf=>
   bD (appS 8 a.2.1 ([f.2]:List Int)) λk=>
   some (.inr (.inr (f.1,k,((IntKind.i64.wrap (a.2.2+1)):Int))))) g
 else
  some (.inr (.inl (a.1,a.2.1,a.2.2)))
def eM (p0:Arena) (p1:(List Pair)) (a:(List Place)×Int×(List Int)×(List (List Int))×(List Int)):Option ((Parity×(List Place)×Bool)⊕(((List Place)×Int×(List Int)×(List (List Int))×(List Int))⊕((List Place)×Int×(List Int)×(List (List Int))×(List Int)))):=
 bif decide (a.2.1<(a.1.length:Int)) then
  bD (idx a.1 a.2.1) λb=>
  bD (lX p1 b.Record b.At) λl=>
  bD (cu (fU p0 b l) (2 ^ 64) (a.1,(([]:List Int):(List Int)),(0:Int))) λd=>
  aft (λr=>some (.inl r)) (λc=>
   bD (idx p0.Owner b.At) λe=>
   bD (appS 8 a.2.2.1 ([e]:List Int)) λf=>
   bD (ka c.2.1) λg=>
   bD (appS 24 a.2.2.2.1 ([g]:List (List Int))) λi=>
   bD (lY p1 b.Record b.At) λj=>
   bD (appS 8 a.2.2.2.2 ([j]:List Int)) λk=>
   some (.inr (.inr (c.1,((IntKind.i64.wrap (a.2.1+1)):Int),f,i,k)))) d
 else
  some (.inr (.inl (a.1,a.2.1,a.2.2.1,a.2.2.2.1,a.2.2.2.2)))
def iJ (p0:Arena) (p1:(List Pair)) (p2:Int):Option (Parity×(List Place)×Bool):=
 bD (kz p0) λg=>
 bD (bif (!g) then
 some true
 else
 bD (kA p1 (p0.Owner.length:Int)) λi=>
 some (!i)) λb=>
 bD (bif b then
 some true
 else
 bD (en p2 0 (IntKind.i64.wrap ((p0.Owner.length:Int)-1))) λj=>
 some (!j)) λc=>
 bif c then
  some (((⟨(⟨([]:List Int),([]:List (List Int))⟩:Arena),([]:List Int)⟩:Parity):Parity),(([]:List Place):(List Place)),false)
 else
  bD (cntM eK p1.length 0 (([]:List Int):(List Int))) λd=>
  aft (λr=>some r) (λf=>
   bD (cu (eM p0 p1) (2 ^ 64) ((([(⟨p2,f⟩:Place)]:List Place):(List Place)),(0:Int),(([]:List Int):(List Int)),(([]:List (List Int)):(List (List Int))),(([]:List Int):(List Int)))) λe=>
   aft (λr=>some r) (λa=>
    some (((⟨(⟨a.2.2.1,a.2.2.2.1⟩:Arena),a.2.2.2.2⟩:Parity):Parity),a.1,true)) e) d
def ir (p0:Parity) (a:Int) (s1:Unit):Option (Bool⊕((Unit)⊕(Unit))):=
 bD (idx p0.Prio a) λb=>
 bD (en b 0 40) λc=>
 bif (!c) then
  some (.inl (false:Bool))
 else
  some (.inr (.inr ()))
def jL (p0:Parity):Option (Bool):=
 bD (kz p0.Arena) λc=>
 bD (bif (!c) then
 some true
 else
 some ((p0.Prio.length:Int) !=(p0.Arena.Owner.length:Int))) λa=>
 bif a then
  some (false:Bool)
 else
  bD (cntM (ir p0) p0.Prio.length 0 ()) λb=>
  aft (λr=>some r) (λd=>
   some (true:Bool)) b
def kg  (b:Int) (s1:(List Int)):Option ((List Int)⊕(((List Int))⊕((List Int)))):=
 bD (appS 8 s1 ([(-1)]:List Int)) λa=>
 some (.inr (.inr (a:(List Int))))
def nk (p0:Int):Option ((List Int)):=
 bD (rng p0) λ_=>
 bD (cntM kg (hV (p0-0)) 0 (([]:List Int):(List Int))) λa=>
 aft (λr=>some r) (λb=>
  some (b:(List Int))) a
def mE (p0:(List Int)) (p1:Int) (a:Int) (s1:Unit):Option (Bool⊕((Unit)⊕(Unit))):=
 bD (idx p0 a) λb=>
 bif (b==p1) then
  some (.inl (true:Bool))
 else
  some (.inr (.inr ()))
def pd (p0:(List Int)) (p1:Int):Option (Bool):=
 bD (cntM (mE p0 p1) p0.length 0 ()) λa=>
 aft (λr=>some r) (λb=>
  some (false:Bool)) a
def jA (p0:Parity) (p1:(List Int)) (a:Int) (s1:Unit):Option (Bool⊕((Unit)⊕(Unit))):=
 bD (idx p1 a) λc=>
 bD (bif (c !=(-1)) then
 bD (idx p1 a) λe=>
 bD (idx p0.Arena.Next a) λd=>
 bD (pd d e) λf=>
 some (!f)
 else
 some false) λb=>
 bif b then
  some (.inl (false:Bool))
 else
  some (.inr (.inr ()))
def mh (p0:Parity) (p1:(List Int)):Option (Bool):=
 bif ((p1.length:Int) !=(p0.Prio.length:Int)) then
  some (false:Bool)
 else
  bD (cntM (jA p0 p1) p1.length 0 ()) λa=>
  aft (λr=>some r) (λb=>
   some (true:Bool)) a
def j7 (p0:Parity) (p1:(List Int)) (a:Int) (s1:(List (List Int))):Option ((Parity×Bool)⊕(((List (List Int)))⊕((List (List Int))))):=
 bD (idx p0.Arena.Next a) λc=>
 bD (dw c) λd=>
 bD (idx p1 a) λe=>
 bD (bif decide (0<=e) then
  bD (idx p1 a) λf=>
  some (([f]:List Int):(List Int))
 else
  some (d:(List Int))) λb=>
 bD (appS 24 s1 ([b]:List (List Int))) λg=>
 some (.inr (.inr (g:(List (List Int)))))
def m9 (p0:Parity) (p1:(List Int)):Option (Parity×Bool):=
 bD (jL p0) λf=>
 bD (bif (!f) then
 some true
 else
 bD (mh p0 p1) λg=>
 some (!g)) λc=>
 bif c then
  some (((⟨(⟨([]:List Int),([]:List (List Int))⟩:Arena),([]:List Int)⟩:Parity):Parity),false)
 else
  bD (dw p0.Arena.Owner) λa=>
  bD (dw p0.Prio) λb=>
  bD (cntM (j7 p0 p1) p1.length 0 (((⟨(⟨a,([]:List (List Int))⟩:Arena),b⟩:Parity).Arena).Next:(List (List Int)))) λd=>
  aft (λr=>some r) (λe=>
   some (((⟨(⟨((⟨(⟨a,([]:List (List Int))⟩:Arena),b⟩:Parity).Arena).Owner,e⟩:Arena),(⟨(⟨a,([]:List (List Int))⟩:Arena),b⟩:Parity).Prio⟩:Parity):Parity),true)) d
def mg (p0:Parity) (b:Int) (a:Int×(List (List Int))):Option (l7Game⊕((Int×(List (List Int)))⊕(Int×(List (List Int))))):=
 bD (idx p0.Arena.Next b) λd=>
 bif decide (a.1<(d.length:Int)) then
  bD (idx p0.Arena.Next b) λe=>
  bD (idx e a.1) λc=>
  bD (idx a.2 c) λf=>
  bD (appS 8 f ([b]:List Int)) λg=>
  bD (idx a.2 c) λj=>
  bD (setI a.2 c (g:(List Int))) λi=>
  some (.inr (.inr (((IntKind.i64.wrap (a.1+1)):Int),i)))
 else
  some (.inr (.inl (a.1,a.2)))
def mf (p0:Parity) (a:Int) (s1:(List (List Int))×(List Int)):Option (l7Game⊕(((List (List Int))×(List Int))⊕((List (List Int))×(List Int)))):=
 bD (idx s1.2 a) λe=>
 bD (setI s1.2 a (-1)) λd=>
 bD (cu (mg p0 a) (2 ^ 64) ((0:Int),s1.1)) λb=>
 aft (λr=>some (.inl r)) (λc=>
  some (.inr (.inr (c.2,d)))) b
def pe (p0:Parity):Option (l7Game):=
 bD (mkS 24 (p0.Prio.length:Int) (([]:List Int):(List Int))) λa=>
 bD (mkS 8 (p0.Prio.length:Int) (0:Int)) λb=>
 bD (cntM (mf p0) p0.Prio.length 0 (((⟨p0.Arena.Owner,p0.Prio,p0.Arena.Next,a,b⟩:l7Game).prev:(List (List Int))),((⟨p0.Arena.Owner,p0.Prio,p0.Arena.Next,a,b⟩:l7Game).pick:(List Int)))) λd=>
 aft (λr=>some r) (λc=>
  some ((⟨(⟨p0.Arena.Owner,p0.Prio,p0.Arena.Next,a,b⟩:l7Game).owner,(⟨p0.Arena.Owner,p0.Prio,p0.Arena.Next,a,b⟩:l7Game).prio,(⟨p0.Arena.Owner,p0.Prio,p0.Arena.Next,a,b⟩:l7Game).next,c.1,c.2⟩:l7Game):l7Game)) d
def kZ  (a:Int) (s1:(List Bool)):Option ((List Bool)⊕(((List Bool))⊕((List Bool)))):=
 bD (idx s1 a) λc=>
 bD (setI s1 a true) λb=>
 some (.inr (.inr (b:(List Bool))))
def oN (p0:Int):Option ((List Bool)):=
 bD (mkS 1 p0 (false:Bool)) λc=>
 bD (rng p0) λ_=>
 bD (cntM kZ (hV (p0-0)) 0 (c:(List Bool))) λa=>
 aft (λr=>some r) (λb=>
  some (b:(List Bool))) a
def lb (p0:l7Game) (p1:(List Bool)) (a:Int) (s1:Int):Option (Int⊕((Int)⊕(Int))):=
 bD (idx p1 a) λc=>
 bD (bif c then
  bD (idx p0.prio a) λd=>
  bD (kp s1 d) λe=>
  some (e:Int)
 else
  some (s1:Int)) λb=>
 some (.inr (.inr (b:Int)))
def oO (p0:l7Game) (p1:(List Bool)):Option (Int):=
 bD (cntM (lb p0 p1) p1.length 0 ((-1):Int)) λa=>
 aft (λr=>some r) (λb=>
  some (b:Int)) a
def mb (p0:l7Game) (p1:Int) (p2:Int):Option (Bool):=
 bD (idx p0.pick p1) λb=>
 bD (bif decide (b<0) then
 some true
 else
 bD (idx p0.pick p1) λc=>
 some (c==p2)) λa=>
 some (a:Bool)
def iD (p0:l7Game) (p1:(List Bool)) (p2:Int) (s1:Int×Int):Option (Int⊕((Int×Int)⊕(Int×Int))):=
 bD (idx p0.next p2) λd=>
 bif decide (s1.2<(d.length:Int)) then
  bD (idx p0.next p2) λe=>
  bD (idx e s1.2) λa=>
  bD (idx p1 a) λf=>
  bD (bif f then
  bD (mb p0 p2 a) λg=>
  some g
  else
  some false) λb=>
  bD (bif b then
   some ((IntKind.i64.wrap (s1.1+1)):Int)
  else
   some (s1.1:Int)) λc=>
  some (.inr (.inr (c,((IntKind.i64.wrap (s1.2+1)):Int))))
 else
  some (.inr (.inl (s1.1,s1.2)))
def la (p0:l7Game) (p1:(List Bool)) (p2:Int):Option (Int):=
 bD (cu (iD p0 p1 p2) (2 ^ 64) ((0:Int),(0:Int))) λa=>
 aft (λr=>some r) (λb=>
  some (b.1:Int)) a
def fl (p0:l7Game) (p1:(List Bool)) (p3:(List Bool)) (a:Int) (s1:(List Int)×(List Bool)×(List Int)):Option ((List Bool)⊕(((List Int)×(List Bool)×(List Int))⊕((List Int)×(List Bool)×(List Int)))):=
 bD (idx p1 a) λe=>
 bD (bif e then
  bD (la p0 p1 a) λf=>
  bD (idx s1.2.2 a) λm=>
  bD (setI s1.2.2 a f) λk=>
  some (k:(List Int))
 else
  some (s1.2.2:(List Int))) λd=>
 bD (idx p1 a) λg=>
 bD (bif g then
 bD (idx p3 a) λi=>
 some i
 else
 some false) λc=>
 bD (bif c then
  bD (idx s1.2.1 a) λn=>
  bD (setI s1.2.1 a true) λl=>
  bD (appS 8 s1.1 ([a]:List Int)) λj=>
  some (j,l)
 else
  some (s1.1,s1.2.1)) λb=>
 some (.inr (.inr (b.1,b.2,d)))
def ep (p0:l7Game) (p1:(List Bool)) (p2:Int) (c:Int) (a:(List Int)×Int×(List Bool)×(List Int)):Option ((List Bool)⊕(((List Int)×Int×(List Bool)×(List Int))⊕((List Int)×Int×(List Bool)×(List Int)))):=
 bD (idx p0.prev c) λo=>
 bif decide (a.2.1<(o.length:Int)) then
  bD (idx p0.prev c) λp=>
  bD (idx p a.2.1) λb=>
  bD (idx p1 b) λq=>
  bD (bif (!q) then
  some true
  else
  bD (idx a.2.2.1 b) λr=>
  some r) λi=>
  bD (bif i then
  some true
  else
  bD (mb p0 b c) λj=>
  some (!j)) λf=>
  bif f then
   some (.inr (.inr (a.1,((IntKind.i64.wrap (a.2.1+1)):Int),a.2.2.1,a.2.2.2)))
  else
   bD (idx a.2.2.2 b) λk=>
   bD (idx a.2.2.2 b) λt=>
   bD (setI a.2.2.2 b (IntKind.i64.wrap (k-1))) λe=>
   bD (idx p0.owner b) λl=>
   bD (bif (l==p2) then
   some true
   else
   bD (idx e b) λm=>
   some (m==0)) λg=>
   bD (bif g then
    bD (idx a.2.2.1 b) λu=>
    bD (setI a.2.2.1 b true) λs=>
    bD (appS 8 a.1 ([b]:List Int)) λn=>
    some (n,s)
   else
    some (a.1,a.2.2.1)) λd=>
   some (.inr (.inr (d.1,((IntKind.i64.wrap (a.2.1+1)):Int),d.2,e)))
 else
  some (.inr (.inl (a.1,a.2.1,a.2.2.1,a.2.2.2)))
def gP (p0:l7Game) (p1:(List Bool)) (p2:Int) (a:(List Int)×Int×(List Bool)×(List Int)):Option ((List Bool)⊕(((List Int)×Int×(List Bool)×(List Int))⊕((List Int)×Int×(List Bool)×(List Int)))):=
 bif decide (a.2.1<(a.1.length:Int)) then
  bD (idx a.1 a.2.1) λd=>
  bD (cu (ep p0 p1 p2 d) (2 ^ 64) (a.1,(0:Int),a.2.2.1,a.2.2.2)) λc=>
  aft (λr=>some (.inl r)) (λb=>
   some (.inr (.inr (b.1,((IntKind.i64.wrap (a.2.1+1)):Int),b.2.2.1,b.2.2.2)))) c
 else
  some (.inr (.inl (a.1,a.2.1,a.2.2.1,a.2.2.2)))
def i9 (p0:l7Game) (p1:(List Bool)) (p2:Int) (p3:(List Bool)):Option ((List Bool)):=
 bD (mkS 1 (p1.length:Int) (false:Bool)) λe=>
 bD (mkS 8 (p1.length:Int) (0:Int)) λf=>
 bD (cntM (fl p0 p1 p3) p1.length 0 ((([]:List Int):(List Int)),e,f)) λb=>
 aft (λr=>some r) (λa=>
  bD (cu (gP p0 p1 p2) (2 ^ 64) (a.1,(0:Int),a.2.1,a.2.2)) λc=>
  aft (λr=>some r) (λd=>
   some (d.2.2.1:(List Bool))) c) b
def ke (p0:(List Bool)) (p1:(List Bool)) (a:Int) (s1:(List Bool)):Option ((List Bool)⊕(((List Bool))⊕((List Bool)))):=
 bD (idx p0 a) λc=>
 bD (bif c then
 bD (idx p1 a) λd=>
 some (!d)
 else
 some false) λb=>
 bD (idx s1 a) λf=>
 bD (setI s1 a b) λe=>
 some (.inr (.inr (e:(List Bool))))
def me (p0:(List Bool)) (p1:(List Bool)):Option ((List Bool)):=
 bD (mkS 1 (p0.length:Int) (false:Bool)) λc=>
 bD (cntM (ke p0 p1) p0.length 0 (c:(List Bool))) λa=>
 aft (λr=>some r) (λb=>
  some (b:(List Bool))) a
def lc (p0:l7Game) (p1:(List Bool)) (c:Int) (a:Int) (s1:(List Bool)):Option ((List Bool)⊕(((List Bool))⊕((List Bool)))):=
 bD (idx p1 a) λd=>
 bD (bif d then
 bD (idx p0.prio a) λe=>
 some (e==c)
 else
 some false) λb=>
 bD (idx s1 a) λg=>
 bD (setI s1 a b) λf=>
 some (.inr (.inr (f:(List Bool))))
def jO (f:Int) (g:(List Bool)) (i:(List Bool)) (a:Int) (b:Bool×(List Bool)):Option ((List Bool)⊕((Bool×(List Bool))⊕(Bool×(List Bool)))):=
 bD (idx g a) λj=>
 bD (bif j then
 bD (idx i a) λk=>
 some (k !=((Int.tmod f 2)==0))
 else
 some false) λd=>
 bD (idx b.2 a) λm=>
 bD (setI b.2 a d) λc=>
 bD (bif b.1 then
 some true
 else
 bD (idx c a) λl=>
 some l) λe=>
 some (.inr (.inr (e,c)))
def lg (p1:(List Bool)) (e:Int) (a:Int) (b:(List Bool)):Option ((List Bool)⊕(((List Bool))⊕((List Bool)))):=
 bD (idx p1 a) λd=>
 bD (bif d then
 some ((Int.tmod e 2)==0)
 else
 some false) λc=>
 bD (idx b a) λg=>
 bD (setI b a c) λf=>
 some (.inr (.inr (f:(List Bool))))
def lh (j:Int) (e:(List Bool)) (f:(List Bool)) (a:Int) (b:(List Bool)):Option ((List Bool)⊕(((List Bool))⊕((List Bool)))):=
 bD (idx f a) λg=>
 bD (bif g then
 some true
 else
 bD (idx e a) λi=>
 bD (bif i then
 some ((Int.tmod j 2)==1)
 else
 some false) λc=>
 some c) λd=>
 bD (idx b a) λl=>
 bD (setI b a d) λk=>
 some (.inr (.inr (k:(List Bool))))
def jP (rc:l7Game->(List Bool)->Option ((List Bool))) (p0:l7Game) (p1:(List Bool)):Option ((List Bool)):=
 bD (oO p0 p1) λa=>
 bD (mkS 1 (p1.length:Int) (false:Bool)) λb=>
 bif decide (a<0) then
  some (b:(List Bool))
 else
  bD (mkS 1 (p1.length:Int) (false:Bool)) λp=>
  bD (cntM (lc p0 p1 a) p1.length 0 (p:(List Bool))) λg=>
  aft (λr=>some r) (λl=>
   bD (i9 p0 p1 (Int.tmod a 2) l) λq=>
   bD (me p1 q) λe=>
   bD (rc p0 e) λs=>
   bD (mkS 1 (p1.length:Int) (false:Bool)) λt=>
   bD (cntM (jO a e s) p1.length 0 (false,t)) λi=>
   aft (λr=>some r) (λc=>
    bif (!c.1) then
     bD (cntM (lg p1 a) p1.length 0 (b:(List Bool))) λj=>
     aft (λr=>some r) (λm=>
      some (m:(List Bool))) j
    else
     bD (i9 p0 p1 (IntKind.i64.wrap (1-(Int.tmod a 2))) c.2) λd=>
     bD (me p1 d) λn=>
     bD (rc p0 n) λo=>
     bD (cntM (lh a d o) p1.length 0 (b:(List Bool))) λf=>
     aft (λr=>some r) (λk=>
      some (k:(List Bool))) f) i) g
def lF:Nat->l7Game->(List Bool)->Option ((List Bool))
 | 0=>λ_ _=>none
 | n+1=>jP (lF n)
def lj (b:(List Bool)) (a:Int) (s1:(List Int)):Option ((List Int)⊕(((List Int))⊕((List Int)))):=
 bD (idx b a) λc=>
 bD (jt c) λd=>
 bD (appS 8 s1 ([(IntKind.i64.wrap (1-d))]:List Int)) λe=>
 some (.inr (.inr (e:(List Int))))
def jX (p0:Parity):Option ((List Int)):=
 bD (pe p0) λe=>
 bD (oN (p0.Prio.length:Int)) λd=>
 bD (lF (2 ^ 64) e d) λa=>
 bD (cntM (lj a) a.length 0 (([]:List Int):(List Int))) λb=>
 aft (λr=>some r) (λc=>
  some (c:(List Int))) b
def ki (p0:(List Int)) (p1:(List Int)) (a:Int) (s1:Unit):Option (Bool⊕((Unit)⊕(Unit))):=
 bD (idx p0 a) λb=>
 bD (idx p1 a) λc=>
 bif (b !=c) then
  some (.inl (false:Bool))
 else
  some (.inr (.inr ()))
def nq (p0:(List Int)) (p1:(List Int)):Option (Bool):=
 bif ((p0.length:Int) !=(p1.length:Int)) then
  some (false:Bool)
 else
  bD (cntM (ki p0 p1) p0.length 0 ()) λa=>
  aft (λr=>some r) (λb=>
   some (true:Bool)) a
def kR (p0:Parity) (p1:(List Int)):Option (Bool):=
 bD (m9 p0 p1) λa=>
 bD (bif a.2 then
 bD (jX a.1) λc=>
 bD (jX p0) λd=>
 bD (nq c d) λe=>
 some e
 else
 some false) λb=>
 some (b:Bool)
def iE (p0:(List Int)) (p1:Int) (a:Int) (s1:(List Bool)):Option ((List Bool)⊕(((List Bool))⊕((List Bool)))):=
 bD (idx p0 a) λb=>
 bD (idx s1 a) λd=>
 bD (setI s1 a (b==p1)) λc=>
 some (.inr (.inr (c:(List Bool))))
def gQ (p0:(List Int)) (p1:Int):Option ((List Bool)):=
 bD (mkS 1 (p0.length:Int) (false:Bool)) λc=>
 bD (cntM (iE p0 p1) p0.length 0 (c:(List Bool))) λa=>
 aft (λr=>some r) (λb=>
  some (b:(List Bool))) a
def jz (p1:(List Bool)) (p2:Int) (c:(List Bool)) (a:Int) (s1:Unit):Option (Bool⊕((Unit)⊕(Unit))):=
 bD (idx p1 a) λd=>
 bD (bif d then
 bD (idx c a) λe=>
 some (e !=(p2==0))
 else
 some false) λb=>
 bif b then
  some (.inl (false:Bool))
 else
  some (.inr (.inr ()))
def mc (p0:l7Game) (p1:(List Bool)) (p2:Int):Option (Bool):=
 bD (lF (2 ^ 64) p0 p1) λb=>
 bD (cntM (jz p1 p2 b) p1.length 0 ()) λa=>
 aft (λr=>some r) (λc=>
  some (true:Bool)) a
def kh (p0:l7Game) (p1:(List Bool)) (p2:Int) (s1:Int×(List Int)):Option ((Int×(List Int))⊕((Int×(List Int))⊕(Int×(List Int)))):=
 bD (idx p0.next p2) λc=>
 bif decide (s1.1<(c.length:Int)) then
  bD (idx p0.next p2) λd=>
  bD (idx d s1.1) λa=>
  bD (idx p1 a) λe=>
  bif (!e) then
   some (.inr (.inr (((IntKind.i64.wrap (s1.1+1)):Int),s1.2)))
  else
   bD (idx s1.2 p2) λi=>
   bD (setI s1.2 p2 a) λb=>
   bD (idx p0.owner p2) λf=>
   bD (mc (⟨p0.owner,p0.prio,p0.next,p0.prev,b⟩:l7Game) p1 f) λg=>
   bif g then
    some (.inl (a,b))
   else
    some (.inr (.inr (((IntKind.i64.wrap (s1.1+1)):Int),b)))
 else
  some (.inr (.inl (s1.1,s1.2)))
def np (p0:l7Game) (p1:(List Bool)) (p2:Int):Option (Int×(List Int)):=
 bD (cu (kh p0 p1 p2) (2 ^ 64) ((0:Int),p0.pick)) λa=>
 aft (λr=>some r) (λb=>
  some (((-1):Int),b.2)) a
def iu (p0:Parity) (p1:(List Int)) (c:(List Int)) (a:Int) (s1:(List Int)):Option ((Answer×Bool)⊕(((List Int))⊕((List Int)))):=
 bD (idx p1 a) λd=>
 bD (bif (d !=(-1)) then
 bD (idx c a) λe=>
 bD (idx p0.Arena.Owner a) λf=>
 some (e !=f)
 else
 some false) λb=>
 bif b then
  some (.inl (((⟨([]:List Int),([]:List Int)⟩:Answer):Answer),false))
 else
  bD (idx p1 a) λg=>
  bD (idx s1 a) λj=>
  bD (setI s1 a g) λi=>
  some (.inr (.inr (i:(List Int))))
def iv (p0:Parity) (e:(List Int)) (b:l7Game) (i:(List Bool)) (j:(List Bool)) (a:Int) (c:(List Int)):Option ((Answer×Bool)⊕(((List Int))⊕((List Int)))):=
 bD (idx c a) λk=>
 bD (bif decide (0<=k) then
 some true
 else
 bD (idx e a) λl=>
 bD (idx p0.Arena.Owner a) λm=>
 some (l !=m)) λf=>
 bif f then
  some (.inr (.inr (c:(List Int))))
 else
  bD (idx e a) λn=>
  bD (bif (n==1) then
   some (j:(List Bool))
  else
   some (i:(List Bool))) λg=>
  bD (np (⟨b.owner,b.prio,b.next,b.prev,c⟩:l7Game) g a) λd=>
  bD (idx d.2 a) λp=>
  bD (setI d.2 a d.1) λo=>
  some (.inr (.inr (o:(List Int))))
def kT (p0:Parity) (p1:(List Int)):Option (Answer×Bool):=
 bD (kR p0 p1) λg=>
 bif (!g) then
  some (((⟨([]:List Int),([]:List Int)⟩:Answer):Answer),false)
 else
  bD (jX p0) λa=>
  bD (pe p0) λb=>
  bD (cntM (iu p0 p1 a) p1.length 0 (b.pick:(List Int))) λc=>
  aft (λr=>some r) (λe=>
   bD (gQ a 0) λi=>
   bD (gQ a 1) λj=>
   bD (cntM (iv p0 a b i j) a.length 0 (e:(List Int))) λd=>
   aft (λr=>some r) (λf=>
    some (((⟨a,f⟩:Answer):Answer),true)) d) c
def lV (p0:Parity):Option (Answer):=
 bD (jL p0) λc=>
 bif (!c) then
  some ((⟨([]:List Int),([]:List Int)⟩:Answer):Answer)
 else
  bD (nk (p0.Prio.length:Int)) λa=>
  bD (kT p0 a) λb=>
  some (b.1:Answer)
def eF (p0:Sig):Option (Int):=
 bD (dF p0.In) λa=>
 some (a:Int)
def kU (p0:Sig) (p1:Det) (p2:Int) (p3:Int):Option (Int):=
 bD (jU p0 p1) λc=>
 bD (bif (!c) then
 some true
 else
 bD (en p2 0 (IntKind.i64.wrap ((p1.Next.length:Int)-1))) λd=>
 some (!d)) λa=>
 bD (bif a then
 some true
 else
 bD (ec p0) λe=>
 bD (en p3 (-1) (IntKind.i64.wrap (e-1))) λf=>
 some (!f)) λb=>
 bif b then
  some ((-1):Int)
 else
  bif (p3==(-1)) then
   some (p2:Int)
  else
   bD (ec p0) λg=>
   some ((IntKind.i64.wrap ((IntKind.i64.wrap ((p1.Next.length:Int)+(IntKind.i64.wrap (p2 * g))))+p3)):Int)
def kY (p0:Parity) (p1:(List Place)) (p2:Int) (p3:Int) (s1:Int):Option (Int⊕((Int)⊕(Int))):=
 bD (idx p0.Arena.Next p2) λb=>
 bif decide (s1<(b.length:Int)) then
  bD (idx p0.Arena.Next p2) λc=>
  bD (idx c s1) λa=>
  bD (idx p1 a) λd=>
  bif (d.At==p3) then
   some (.inl (a:Int))
  else
   some (.inr (.inr ((IntKind.i64.wrap (s1+1)):Int)))
 else
  some (.inr (.inl (s1:Int)))
def oK (p0:Parity) (p1:(List Place)) (p2:Int) (p3:Int):Option (Int):=
 bD (cu (kY p0 p1 p2 p3) (2 ^ 64) (0:Int)) λa=>
 aft (λr=>some r) (λb=>
  some ((-1):Int)) a
def ju (p0:(List Int)) (p1:Int) (a:Int) (s1:Unit):Option (Int⊕((Unit)⊕(Unit))):=
 bD (idx p0 a) λb=>
 bif (b==p1) then
  some (.inl (a:Int))
 else
  some (.inr (.inr ()))
def ia (p0:(List Int)) (p1:Int):Option (Int):=
 bD (cntM (ju p0 p1) p0.length 0 ()) λa=>
 aft (λr=>some r) (λb=>
  some ((-1):Int)) a
def gH (p0:Sig) (p1:Det) (p2:Int) (p3:Int) (a:Int) (s1:(List Int)×Int):Option ((List Int)⊕(((List Int)×Int)⊕((List Int)×Int))):=
 bD (dF p0.Out) λc=>
 bif decide (s1.2<c) then
  bD (idx p1.Next p2) λd=>
  bD (jK p0 p3 s1.2) λe=>
  bD (idx d e) λf=>
  bD (bif (f==a) then
   bD (appS 8 s1.1 ([s1.2]:List Int)) λg=>
   some (g:(List Int))
  else
   some (s1.1:(List Int))) λb=>
  some (.inr (.inr (b,((IntKind.i64.wrap (s1.2+1)):Int))))
 else
  some (.inr (.inl (s1.1,s1.2)))
def j8 (p0:Sig) (p1:Det) (p2:Int) (p3:Int) (c:Int):Option ((List Int)):=
 bD (jU p0 p1) λf=>
 bD (bif (!f) then
 some true
 else
 bD (en p2 0 (IntKind.i64.wrap ((p1.Next.length:Int)-1))) λg=>
 some (!g)) λa=>
 bD (bif a then
 some true
 else
 bD (ec p0) λi=>
 bD (en p3 0 (IntKind.i64.wrap (i-1))) λj=>
 some (!j)) λb=>
 bif b then
  some (([]:List Int):(List Int))
 else
  bD (cu (gH p0 p1 p2 p3 c) (2 ^ 64) ((([]:List Int):(List Int)),(0:Int))) λd=>
  aft (λr=>some r) (λe=>
   some (e.1:(List Int))) d
def ie (p0:Sig) (p1:Det) (p2:Parity) (p3:(List Place)) (e:(List Int)) (s1:(List Int)×Int×(List (List Int))×(List (List Int))) (d:Place) (a:(List Int)×(List Int)×(List Int)×Int):Option ((Machine×Bool)⊕(((List Int)×(List Int)×(List Int)×Int)⊕((List Int)×(List Int)×(List Int)×Int))):=
 bD (eF p0) λf=>
 bif decide (a.2.2.2<f) then
  bD (idx a.1 s1.2.1) λg=>
  bD (kU p0 p1 d.At a.2.2.2) λi=>
  bD (oK p2 p3 g i) λj=>
  bD (idx e j) λb=>
  bD (ia a.1 b) λk=>
  bD (bif decide (k<0) then
   bD (appS 8 a.1 ([b]:List Int)) λl=>
   some (l:(List Int))
  else
   some (a.1:(List Int))) λc=>
  bD (ia c b) λm=>
  bD (appS 8 a.2.1 ([m]:List Int)) λn=>
  bD (idx p3 b) λo=>
  bD (j8 p0 p1 d.At a.2.2.2 o.At) λp=>
  bD (idx p 0) λq=>
  bD (appS 8 a.2.2.1 ([q]:List Int)) λr=>
  some (.inr (.inr (c,n,r,((IntKind.i64.wrap (a.2.2.2+1)):Int))))
 else
  some (.inr (.inl (a.1,a.2.1,a.2.2.1,a.2.2.2)))
def jy (p0:Sig) (p1:Det) (p2:Parity) (p3:(List Place)) (b:(List Int)) (s1:(List Int)×Int×(List (List Int))×(List (List Int))):Option ((Machine×Bool)⊕(((List Int)×Int×(List (List Int))×(List (List Int)))⊕((List Int)×Int×(List (List Int))×(List (List Int))))):=
 bif decide (s1.2.1<(s1.1.length:Int)) then
  bD (idx s1.1 s1.2.1) λe=>
  bD (idx p3 e) λf=>
  bD (cu (ie p0 p1 p2 p3 b s1 f) (2 ^ 64) (s1.1,(([]:List Int):(List Int)),(([]:List Int):(List Int)),(0:Int))) λc=>
  aft (λr=>some (.inl r)) (λa=>
   bif decide (48<(a.1.length:Int)) then
    some (.inl (((⟨([]:List (List Int)),([]:List (List Int))⟩:Machine):Machine),false))
   else
    bD (appS 24 s1.2.2.1 ([a.2.1]:List (List Int))) λg=>
    bD (appS 24 s1.2.2.2 ([a.2.2.1]:List (List Int))) λd=>
    some (.inr (.inr (a.1,((IntKind.i64.wrap (s1.2.1+1)):Int),g,d)))) c
 else
  some (.inr (.inl (s1.1,s1.2.1,s1.2.2.1,s1.2.2.2)))
def nJ (p0:Sig) (p1:Det) (p2:Parity) (p3:(List Place)) (b:(List Int)):Option (Machine×Bool):=
 bD (cu (jy p0 p1 p2 p3 b) (2 ^ 64) ((([0]:List Int):(List Int)),(0:Int),(([]:List (List Int)):(List (List Int))),(([]:List (List Int)):(List (List Int))))) λc=>
 aft (λr=>some r) (λa=>
  some (((⟨a.2.2.1,a.2.2.2⟩:Machine):Machine),true)) c
def gD (p0:Sig) (p1:(List Clause)):Option (Machine×Bool):=
 bD (da p0 p1) λb=>
 bif (!b.2) then
  some (((⟨([]:List (List Int)),([]:List (List Int))⟩:Machine):Machine),false)
 else
  bD (iV p0 b.1) λc=>
  bif (!c.2.2) then
   some (((⟨([]:List (List Int)),([]:List (List Int))⟩:Machine):Machine),false)
  else
   bD (iJ c.1 c.2.1 0) λa=>
   bif (!a.2.2) then
    some (((⟨([]:List (List Int)),([]:List (List Int))⟩:Machine):Machine),false)
   else
    bD (lV a.1) λd=>
    bD (idx d.Won 0) λf=>
    bif (f !=0) then
     some (((⟨([]:List (List Int)),([]:List (List Int))⟩:Machine):Machine),false)
    else
     bD (nJ p0 b.1 a.1 a.2.1 d.Plan) λe=>
     some (e.1,e.2)
def kJ (p0:dice) (p1:Int) (s1:Int×(List Int)×Int×Int):Option (((List Int)×Int×Int)⊕((Int×(List Int)×Int×Int)⊕(Int×(List Int)×Int×Int))):=
 bif decide (0<s1.1) then
  bD (cV (⟨p0.b,s1.2.2.1,s1.2.2.2⟩:dice) p1) λa=>
  bD (appS 8 s1.2.1 ([a.1]:List Int)) λb=>
  some (.inr (.inr (((IntKind.i64.wrap (s1.1-1)):Int),b,a.2.1,a.2.2)))
 else
  some (.inr (.inl (s1.1,s1.2.1,s1.2.2.1,s1.2.2.2)))
def nv (p0:dice) (p1:Int) (p2:Int):Option ((List Int)×Int×Int):=
 bD (cu (kJ p0 p1) (2 ^ 64) (p2,(([]:List Int):(List Int)),p0.i,p0.h)) λb=>
 aft (λr=>some r) (λa=>
  some (a.2.1,a.2.2.1,a.2.2.2)) b
def lw (p0:Sig):Option (Bool):=
 bD (bif decide (1<=p0.In) then
 some (decide (p0.In<=2))
 else
 some false) λa=>
 bD (bif a then
 some (decide (1<=p0.Out))
 else
 some false) λb=>
 bD (bif b then
 some (decide (p0.Out<=2))
 else
 some false) λc=>
 some (c:Bool)
def gk (p0:Sig):Option (Int):=
 bD (nn p0.In) λ_z5=>
 some ((IntKind.i64.wrap (1 * 2 ^ (min (hV p0.In) (IntKind.bits IntKind.i64)))):Int)
def eW (p0:Int) (c0:Int):Option (Bool):=
 bD (bif decide (p0<0) then
 some true
 else
 some (decide (c0<=p0))) λa=>
 some (a:Bool)
def cE (p0:(List Int)) (c1_0:Int) (a:Int) (s1:Unit):Option (Int⊕((Unit)⊕(Unit))):=
 bD (idx p0 a) λb=>
 bD (eW b c1_0) λc=>
 bif c then
  some (.inl (a:Int))
 else
  some (.inr (.inr ()))
def cF (p0:(List Int)) (c1_0:Int):Option (Int):=
 bD (cntM (cE p0 c1_0) p0.length 0 ()) λa=>
 aft (λr=>some r) (λb=>
  some ((-1):Int)) a
def cD (p0:(List Int)) (c1_0:Int):Option (Bool):=
 bD (cF p0 c1_0) λa=>
 some (decide (0<=a):Bool)
def ez (p0:(List Int)) (p1:Int):Option (Bool):=
 bD (cD p0 p1) λa=>
 some ((!a):Bool)
def gl (p0:Sig) (p1:Machine) (a:Int) (s1:Unit):Option (Bool⊕((Unit)⊕(Unit))):=
 bD (idx p1.Next a) λb=>
 bD (gk p0) λf=>
 bD (bif ((b.length:Int) !=f) then
 some true
 else
 bD (idx p1.Out a) λg=>
 some ((g.length:Int) !=(b.length:Int))) λc=>
 bD (bif c then
 some true
 else
 bD (ez b (p1.Next.length:Int)) λi=>
 some (!i)) λd=>
 bD (bif d then
 some true
 else
 bD (idx p1.Out a) λj=>
 bD (nn p0.Out) λ_z64=>
 bD (ez j (IntKind.i64.wrap (1 * 2 ^ (min (hV p0.Out) (IntKind.bits IntKind.i64))))) λk=>
 some (!k)) λe=>
 bif e then
  some (.inl (false:Bool))
 else
  some (.inr (.inr ()))
def iQ (p0:Sig) (p1:Machine):Option (Bool):=
 bD (bif decide ((p1.Next.length:Int)<1) then
 some true
 else
 some (decide (48<(p1.Next.length:Int)))) λa=>
 bD (bif a then
 some true
 else
 some ((p1.Out.length:Int) !=(p1.Next.length:Int))) λb=>
 bif b then
  some (false:Bool)
 else
  bD (cntM (gl p0 p1) p1.Next.length 0 ()) λc=>
  aft (λr=>some r) (λd=>
   some (true:Bool)) c
def eB (p0:Sig):Option (Int):=
 bD (nn (IntKind.i64.wrap (p0.In+p0.Out))) λ_z8=>
 some ((IntKind.i64.wrap (1 * 2 ^ (min (hV (IntKind.i64.wrap (p0.In+p0.Out))) (IntKind.bits IntKind.i64)))):Int)
def kG (p0:(List Int)) (p1:Int) (a:Int) (s1:Unit):Option (Bool⊕((Unit)⊕(Unit))):=
 bD (idx p0 a) λb=>
 bD (bif decide (b<0) then
 some true
 else
 some (decide (p1<=b))) λc=>
 bD (bif c then
 some true
 else
 bD (bif decide (0<a) then
 bD (idx p0 (IntKind.i64.wrap (a-1))) λf=>
 some (decide (b<=f))
 else
 some false) λd=>
 some d) λe=>
 bif e then
  some (.inl (false:Bool))
 else
  some (.inr (.inr ()))
def nu (p0:(List Int)) (p1:Int):Option (Bool):=
 bD (cntM (kG p0 p1) p0.length 0 ()) λa=>
 aft (λr=>some r) (λb=>
  some (true:Bool)) a
def lu (p0:Int):Option (Bool):=
 bD (bif (p0==2) then
 some true
 else
 some (p0==3)) λb=>
 bD (bif b then
 some true
 else
 some (p0==7)) λa=>
 some (a:Bool)
def kE (p0:Sig) (p1:Clause):Option (Bool):=
 bD (bif decide (p1.Kind<1) then
 some true
 else
 some (decide (7<p1.Kind))) λa=>
 bD (bif a then
 some true
 else
 bD (eB p0) λe=>
 bD (nu p1.A e) λf=>
 some (!f)) λb=>
 bD (bif b then
 some true
 else
 bD (eB p0) λg=>
 bD (nu p1.B g) λi=>
 some (!i)) λc=>
 bif c then
  some (false:Bool)
 else
  bD (lu p1.Kind) λj=>
  bD (bif j then
  some true
  else
  some ((p1.B.length:Int)==0)) λd=>
  some (d:Bool)
def eV (p0:Clause) (c0:Sig):Option (Bool):=
 bD (kE c0 p0) λa=>
 some ((!a):Bool)
def cm (p0:(List Clause)) (c1_0:Sig) (a:Int) (s1:Unit):Option (Int⊕((Unit)⊕(Unit))):=
 bD (idx p0 a) λb=>
 bD (eV b c1_0) λc=>
 bif c then
  some (.inl (a:Int))
 else
  some (.inr (.inr ()))
def cr (p0:(List Clause)) (c1_0:Sig):Option (Int):=
 bD (cntM (cm p0 c1_0) p0.length 0 ()) λa=>
 aft (λr=>some r) (λb=>
  some ((-1):Int)) a
def cj (p0:(List Clause)) (c1_0:Sig):Option (Bool):=
 bD (cr p0 c1_0) λa=>
 some (decide (0<=a):Bool)
def gT (p0:Sig) (p1:(List Clause)):Option (Bool):=
 bD (bif decide ((p1.length:Int)<=3) then
 bD (cj p1 p0) λb=>
 some (!b)
 else
 some false) λa=>
 some (a:Bool)
def dm (p0:(List Int)) (p1:Int) (a:Int) (s1:Unit):Option (Int⊕((Unit)⊕(Unit))):=
 bD (idx p0 a) λb=>
 bif (p1==b) then
  some (.inl (a:Int))
 else
  some (.inr (.inr ()))
def db (p0:(List Int)) (p1:Int):Option (Int):=
 bD (cntM (dm p0 p1) p0.length 0 ()) λa=>
 aft (λr=>some r) (λb=>
  some ((-1):Int)) a
def bW (p0:(List Int)) (p1:Int):Option (Bool):=
 bD (db p0 p1) λa=>
 some (decide (0<=a):Bool)
def iq (p0:Int) (p1:Int) (p2:Bool) (p3:Bool):Option (Int):=
 bD (bif p2 then
  some (1:Int)
 else
  some (0:Int)) λa=>
 bD (bif p3 then
  some (true,(1:Int))
 else
  some (false,(0:Int))) λb=>
 bif (p0==1) then
  some ((if p1<(IntKind.i64.wrap (1-a)) then(IntKind.i64.wrap (1-a)) else p1):Int)
 else
  bif (p0==2) then
   bD (bif (p1==2) then
   some true
   else
   bD (bif (p1==1) then
   some (!b.1)
   else
   some false) λc=>
   some c) λd=>
   bif d then
    some (2:Int)
   else
    some (a:Int)
  else
   bif (p0==3) then
    bif b.1 then
     some (0:Int)
    else
     some ((if p1<a then a else p1):Int)
   else
    bif (p0==4) then
     some (a:Int)
    else
     bif (p0==5) then
      some ((IntKind.i64.wrap (1-a)):Int)
     else
      bif (p0==6) then
       some ((if p1<a then a else p1):Int)
      else
       some ((IntKind.i64.wrap ((IntKind.i64.wrap (2 * a))+b.2)):Int)
def eZ (p1:Clause) (c:Int) (a:Int) (b:(List Int)):Option (Det⊕(((List Int))⊕((List Int)))):=
 bD (bW p1.A a) λd=>
 bD (bW p1.B a) λe=>
 bD (iq p1.Kind c d e) λf=>
 bD (appS 8 b ([f]:List Int)) λg=>
 some (.inr (.inr (g:(List Int))))
def eY (p0:Sig) (p1:Clause) (e:Int) (d:(List (List Int))):Option (Det⊕(((List (List Int)))⊕((List (List Int))))):=
 bD (eB p0) λa=>
 bD (rng a) λ_=>
 bD (cntM (eZ p1 e) (hV (a-0)) 0 (([]:List Int):(List Int))) λb=>
 aft (λr=>some (.inl r)) (λc=>
  bD (appS 24 d ([c]:List (List Int))) λf=>
  some (.inr (.inr (f:(List (List Int)))))) b
def jY (p0:Sig) (p1:Clause):Option (Det):=
 bD (bif (p1.Kind==1) then
  some (true:Bool)
 else
  some ((p1.Kind==5):Bool)) λf=>
 bD (bif f then
  some ((2:Int),(([1]:List Int):(List Int)),(([]:List Int):(List Int)))
 else
  bD (bif (p1.Kind==2) then
   some ((3:Int),(([2]:List Int):(List Int)),(([]:List Int):(List Int)))
  else
   bD (bif (p1.Kind==3) then
    some ((2:Int),(([1]:List Int):(List Int)),(([0]:List Int):(List Int)))
   else
    bD (bif (p1.Kind==4) then
     some ((2:Int),(([0,1]:List Int):(List Int)),(([1]:List Int):(List Int)))
    else
     bD (bif (p1.Kind==6) then
      some ((2:Int),(([0]:List Int):(List Int)),(([]:List Int):(List Int)))
     else
      some ((4:Int),(([2,3]:List Int):(List Int)),(([1,3]:List Int):(List Int)))) λe=>
     some (e.1,e.2.1,e.2.2)) λd=>
    some (d.1,d.2.1,d.2.2)) λc=>
   some (c.1,c.2.1,c.2.2)) λb=>
  some (b.1,b.2.1,b.2.2)) λa=>
 bD (rng a.1) λ_=>
 bD (cntM (eY p0 p1) (hV (a.1-0)) 0 (([]:List (List Int)):(List (List Int)))) λg=>
 aft (λr=>some r) (λi=>
  some ((⟨i,([(⟨a.2.1,a.2.2⟩:Pair)]:List Pair)⟩:Det):Det)) g
def cR (p0:(List (Int×Int))) (p1:(Int×Int)) (a:Int) (s1:Unit):Option (Int⊕((Unit)⊕(Unit))):=
 bD (idx p0 a) λb=>
 bif ((p1.1==b.1)&&(p1.2==b.2)) then
  some (.inl (a:Int))
 else
  some (.inr (.inr ()))
def cX (p0:(List (Int×Int))) (p1:(Int×Int)):Option (Int):=
 bD (cntM (cR p0 p1) p0.length 0 ()) λa=>
 aft (λr=>some r) (λb=>
  some ((-1):Int)) a
def eX (p1:Det) (s1:(List (Int×Int))×Int×(List (List Int))) (x47:(List Int)) (c:Int) (a:(List (Int×Int))×(List Int)):Option ((Det×Bool)⊕(((List (Int×Int))×(List Int))⊕((List (Int×Int))×(List Int)))):=
 bD (idx x47 c) λd=>
 bD (idx a.1 s1.2.1) λg=>
 bD (idx p1.Next g.2) λi=>
 bD (idx i c) λe=>
 bD (cX a.1 (d,e)) λf=>
 bD (bif decide (f<0) then
  bD (appS 16 a.1 ([(d,e)]:List (Int×Int))) λj=>
  some (j,((a.1.length:Int):Int))
 else
  some (a.1,f)) λb=>
 bD (appS 8 a.2 ([b.2]:List Int)) λk=>
 some (.inr (.inr (b.1,k)))
def go (p0:Det) (p1:Det) (s1:(List (Int×Int))×Int×(List (List Int))):Option ((Det×Bool)⊕(((List (Int×Int))×Int×(List (List Int)))⊕((List (Int×Int))×Int×(List (List Int))))):=
 bif decide (s1.2.1<(s1.1.length:Int)) then
  bD (idx s1.1 s1.2.1) λd=>
  bD (idx p0.Next d.1) λb=>
  bD (cntM (eX p1 s1 b) b.length 0 (s1.1,(([]:List Int):(List Int)))) λc=>
  aft (λr=>some (.inl r)) (λa=>
   bif decide (48<(a.1.length:Int)) then
    some (.inl (((⟨([]:List (List Int)),([]:List Pair)⟩:Det):Det),false))
   else
    bD (appS 24 s1.2.2 ([a.2]:List (List Int))) λe=>
    some (.inr (.inr (a.1,((IntKind.i64.wrap (s1.2.1+1)):Int),e)))) c
 else
  some (.inr (.inl (s1.1,s1.2.1,s1.2.2)))
def gp (i:(List (Int×Int))×Int×(List (List Int))) (d:Int) (e:Pair) (c:Int) (a:(List Int)×(List Int)):Option ((Det×Bool)⊕(((List Int)×(List Int))⊕((List Int)×(List Int)))):=
 bD (idx i.1 c) λb=>
 bD (idx ([b.1,b.2]:List Int) d) λj=>
 bD (bW e.Ask j) λk=>
 bD (bif k then
  bD (appS 8 a.1 ([c]:List Int)) λl=>
  some (l:(List Int))
 else
  some (a.1:(List Int))) λf=>
 bD (idx ([b.1,b.2]:List Int) d) λm=>
 bD (bW e.Give m) λn=>
 bD (bif n then
  bD (appS 8 a.2 ([c]:List Int)) λo=>
  some (o:(List Int))
 else
  some (a.2:(List Int))) λg=>
 some (.inr (.inr (f,g)))
def dK (b:(List (Int×Int))×Int×(List (List Int))) (f:Int) (g:Det) (e:Int) (d:(List Pair)):Option ((Det×Bool)⊕(((List Pair))⊕((List Pair)))):=
 bD (idx g.Pairs e) λi=>
 bD (cntM (gp b f i) b.1.length 0 ((([]:List Int):(List Int)),(([]:List Int):(List Int)))) λc=>
 aft (λr=>some (.inl r)) (λa=>
  bD (appS 48 d ([(⟨a.1,a.2⟩:Pair)]:List Pair)) λj=>
  some (.inr (.inr (j:(List Pair))))) c
def dh (p0:Det) (p1:Det) (e:(List (Int×Int))×Int×(List (List Int))) (a:Int) (f:(List Pair)):Option ((Det×Bool)⊕(((List Pair))⊕((List Pair)))):=
 bD (idx ([p0,p1]:List Det) a) λb=>
 bD (cntM (dK e a b) b.Pairs.length 0 (f:(List Pair))) λc=>
 aft (λr=>some (.inl r)) (λd=>
  some (.inr (.inr (d:(List Pair))))) c
def iR (p0:Det) (p1:Det):Option (Det×Bool):=
 bif decide (4<(IntKind.i64.wrap ((p0.Pairs.length:Int)+(p1.Pairs.length:Int)))) then
  some (((⟨([]:List (List Int)),([]:List Pair)⟩:Det):Det),false)
 else
  bD (cu (go p0 p1) (2 ^ 64) ((([(0,0)]:List (Int×Int)):(List (Int×Int))),(0:Int),(([]:List (List Int)):(List (List Int))))) λb=>
  aft (λr=>some r) (λa=>
   bD (cntM (dh p0 p1 a) ([p0,p1]:List Det).length 0 (([]:List Pair):(List Pair))) λc=>
   aft (λr=>some r) (λd=>
    some (((⟨a.2.2,d⟩:Det):Det),true)) c) b
def eU (p0:Sig) (p1:(List Clause)) (b:Int) (s1:(List (List Int))×(List Pair)):Option ((Det×Bool)⊕(((List (List Int))×(List Pair))⊕((List (List Int))×(List Pair)))):=
 bD (idx p1 b) λc=>
 bD (jY p0 c) λd=>
 bD (iR (⟨s1.1,s1.2⟩:Det) d) λa=>
 bif (!a.2) then
  some (.inl (((⟨([]:List (List Int)),([]:List Pair)⟩:Det):Det),false))
 else
  some (.inr (.inr (a.1.Next,a.1.Pairs)))
def iP (p0:Sig) (p1:(List Clause)):Option (Det×Bool):=
 bD (lw p0) λd=>
 bD (bif (!d) then
 some true
 else
 bD (gT p0 p1) λe=>
 some (!e)) λb=>
 bif b then
  some (((⟨([]:List (List Int)),([]:List Pair)⟩:Det):Det),false)
 else
  bD (eB p0) λf=>
  bD (mkS 8 f (0:Int)) λg=>
  bD (cntM (eU p0 p1) p1.length 0 ((([g]:List (List Int)):(List (List Int))),(([]:List Pair):(List Pair)))) λc=>
  aft (λr=>some r) (λa=>
   some (((⟨a.1,a.2⟩:Det):Det),true)) c
def gW (p0:Sig) (p1:Machine) (p2:Det) (x42:(Int×Int)) (x47:(Int×Int)) (m:(List Int)) (b:Int) (a:(List (Int×Int))×(List Int)×(List Int)×(List ((Int×Int)×Int))):Option (((Option watch)×Bool)⊕(((List (Int×Int))×(List Int)×(List Int)×(List ((Int×Int)×Int)))⊕((List (Int×Int))×(List Int)×(List Int)×(List ((Int×Int)×Int))))):=
 bD (idx m b) λd=>
 bD (idx p1.Out x42.1) λn=>
 bD (idx n b) λf=>
 bD (gk p0) λg=>
 bD (idx p2.Next x47.2) λo=>
 bD (idx o (IntKind.i64.wrap ((IntKind.i64.wrap (f * g))+b))) λe=>
 bD (mget kwI2 a.2.2.2 ((d,e):(Int×Int)) (0:Int)) λi=>
 bD (bif (!i.2) then
  bD (mset kwI2 a.2.2.2 ((d,e):(Int×Int)) (a.1.length:Int)) λp=>
  bD (appS 16 a.1 ([(d,e)]:List (Int×Int))) λj=>
  some (j,((a.1.length:Int):Int),p)
 else
  some (a.1,i.1,a.2.2.2)) λc=>
 bD (appS 8 a.2.1 ([c.2.1]:List Int)) λk=>
 bD (appS 8 a.2.2.1 ([(IntKind.i64.wrap ((IntKind.i64.wrap (f * g))+b))]:List Int)) λl=>
 some (.inr (.inr (c.1,k,l,c.2.2)))
def gV (p0:Sig) (p1:Machine) (p2:Det) (s1:(List (Int×Int))×Int×(List (List Int))×(List (List Int))×(List ((Int×Int)×Int))):Option (((Option watch)×Bool)⊕(((List (Int×Int))×Int×(List (List Int))×(List (List Int))×(List ((Int×Int)×Int)))⊕((List (Int×Int))×Int×(List (List Int))×(List (List Int))×(List ((Int×Int)×Int))))):=
 bif decide (s1.2.1<(s1.1.length:Int)) then
  bD (idx s1.1 s1.2.1) λb=>
  bD (idx s1.1 s1.2.1) λg=>
  bD (idx p1.Next b.1) λc=>
  bD (cntM (gW p0 p1 p2 b g c) c.length 0 (s1.1,(([]:List Int):(List Int)),(([]:List Int):(List Int)),s1.2.2.2.2)) λd=>
  aft (λr=>some (.inl r)) (λa=>
   bif decide (256<(a.1.length:Int)) then
    some (.inl ((none:Option watch),false))
   else
    bD (appS 24 s1.2.2.1 ([a.2.1]:List (List Int))) λe=>
    bD (appS 24 s1.2.2.2.1 ([a.2.2.1]:List (List Int))) λf=>
    some (.inr (.inr (a.1,((IntKind.i64.wrap (s1.2.1+1)):Int),e,f,a.2.2.2)))) d
 else
  some (.inr (.inl (s1.1,s1.2.1,s1.2.2.1,s1.2.2.2.1,s1.2.2.2.2)))
def gY (g:(List (Int×Int))×Int×(List (List Int))×(List (List Int))×(List ((Int×Int)×Int))) (c:Pair) (b:Int) (a:(List Int)×(List Int)):Option (((Option watch)×Bool)⊕(((List Int)×(List Int))⊕((List Int)×(List Int)))):=
 bD (idx g.1 b) λd=>
 bD (bW c.Ask d.2) λi=>
 bD (bif i then
  bD (appS 8 a.1 ([b]:List Int)) λj=>
  some (j:(List Int))
 else
  some (a.1:(List Int))) λe=>
 bD (bW c.Give d.2) λk=>
 bD (bif k then
  bD (appS 8 a.2 ([b]:List Int)) λl=>
  some (l:(List Int))
 else
  some (a.2:(List Int))) λf=>
 some (.inr (.inr (e,f)))
def gX (p2:Det) (b:(List (Int×Int))×Int×(List (List Int))×(List (List Int))×(List ((Int×Int)×Int))) (e:Int) (d:(List Pair)):Option (((Option watch)×Bool)⊕(((List Pair))⊕((List Pair)))):=
 bD (idx p2.Pairs e) λf=>
 bD (cntM (gY b f) b.1.length 0 ((([]:List Int):(List Int)),(([]:List Int):(List Int)))) λc=>
 aft (λr=>some (.inl r)) (λa=>
  bD (appS 48 d ([(⟨a.1,a.2⟩:Pair)]:List Pair)) λg=>
  some (.inr (.inr (g:(List Pair))))) c
def kx (p0:Sig) (p1:Machine) (p2:Det):Option ((Option watch)×Bool):=
 bD (mset kwI2 ([]:List ((Int×Int)×Int)) ((0,0):(Int×Int)) 0) λe=>
 bD (cu (gV p0 p1 p2) (2 ^ 64) ((([(0,0)]:List (Int×Int)):(List (Int×Int))),(0:Int),(([]:List (List Int)):(List (List Int))),(([]:List (List Int)):(List (List Int))),e)) λb=>
 aft (λr=>some r) (λa=>
  bD (cntM (gX p2 a) p2.Pairs.length 0 (([]:List Pair):(List Pair))) λc=>
  aft (λr=>some r) (λd=>
   some ((some (((⟨a.2.2.1,a.2.2.2.1,d⟩:watch):watch)):Option watch),true)) c) b
def gu (p0:Sig) (p1:Machine) (p2:(List Clause)):Option ((Option watch)×Bool):=
 bD (lw p0) λd=>
 bD (bif (!d) then
 some true
 else
 bD (iQ p0 p1) λe=>
 some (!e)) λc=>
 bif c then
  some ((none:Option watch),false)
 else
  bD (iP p0 p2) λa=>
  bif (!a.2) then
   some ((none:Option watch),false)
  else
   bD (kx p0 p1 a.1) λb=>
   some ((b.1:Option watch),b.2)
def eh (p1:(List Int)) (a:Int) (s1:(List Bool)):Option ((List Bool)⊕(((List Bool))⊕((List Bool)))):=
 bD (bW p1 a) λb=>
 bD (idx s1 a) λd=>
 bD (setI s1 a (!b)) λc=>
 some (.inr (.inr (c:(List Bool))))
def fK (p0:watch) (p1:(List Int)):Option ((List Bool)):=
 bD (mkS 1 (p0.next.length:Int) (false:Bool)) λa=>
 bD (cntM (eh p1) a.length 0 (a:(List Bool))) λb=>
 aft (λr=>some r) (λc=>
  some (c:(List Bool))) b
def lz (p0:Int) (c0:(List Int)):Option ((List Int)):=
 bD (appS 8 c0 ([p0]:List Int)) λa=>
 some (a:(List Int))
def cz (rc:Int->(List (List Int))->(List Int)->(List Bool)->(List Bool)->Option ((List Int)×(List Bool))) (p1:(List (List Int))) (c1:(List Bool)) (f:(List Int)) (e:Int) (s1:(List Int)×(List Bool)):Option (((List Int)×(List Bool))⊕(((List Int)×(List Bool))⊕((List Int)×(List Bool)))):=
 bD (idx f e) λa=>
 bD (idx c1 a) λg=>
 bD (bif g then
 bD (idx s1.2 a) λi=>
 some (!i)
 else
 some false) λd=>
 bD (bif d then
  bD (rc a p1 s1.1 s1.2 c1) λc=>
  some (c.1,c.2)
 else
  some (s1.1,s1.2)) λb=>
 some (.inr (.inr (b.1,b.2)))
def cC (rc:Int->(List (List Int))->(List Int)->(List Bool)->(List Bool)->Option ((List Int)×(List Bool))) (p0:Int) (p1:(List (List Int))) (c:(List Int)) (c0:(List Bool)) (c1:(List Bool)):Option ((List Int)×(List Bool)):=
 bD (idx c0 p0) λg=>
 bD (setI c0 p0 true) λf=>
 bD (idx p1 p0) λb=>
 bD (cntM (cz rc p1 c1 b) b.length 0 (c,f)) λd=>
 aft (λr=>some r) (λa=>
  bD (lz p0 a.1) λe=>
  some (e,a.2)) d
def bV:Nat->Int->(List (List Int))->(List Int)->(List Bool)->(List Bool)->Option ((List Int)×(List Bool))
 | 0=>λ_ _ _ _ _=>none
 | n+1=>cC (bV n)
def mT (p0:Int) (c0:(List Int)):Option ((List Int)):=
 bD (appS 8 c0 ([p0]:List Int)) λa=>
 some (a:(List Int))
def c8 (rc:Int->(List (List Int))->(List Int)->(List Bool)->(List Bool)->Option ((List Int)×(List Bool))) (p1:(List (List Int))) (c1:(List Bool)) (f:(List Int)) (e:Int) (s1:(List Int)×(List Bool)):Option (((List Int)×(List Bool))⊕(((List Int)×(List Bool))⊕((List Int)×(List Bool)))):=
 bD (idx f e) λa=>
 bD (idx c1 a) λg=>
 bD (bif g then
 bD (idx s1.2 a) λi=>
 some (!i)
 else
 some false) λd=>
 bD (bif d then
  bD (rc a p1 s1.1 s1.2 c1) λc=>
  some (c.1,c.2)
 else
  some (s1.1,s1.2)) λb=>
 some (.inr (.inr (b.1,b.2)))
def cO (rc:Int->(List (List Int))->(List Int)->(List Bool)->(List Bool)->Option ((List Int)×(List Bool))) (p0:Int) (p1:(List (List Int))) (c:(List Int)) (c0:(List Bool)) (c1:(List Bool)):Option ((List Int)×(List Bool)):=
 bD (idx c0 p0) λg=>
 bD (setI c0 p0 true) λf=>
 bD (idx p1 p0) λb=>
 bD (cntM (c8 rc p1 c1 b) b.length 0 (c,f)) λd=>
 aft (λr=>some r) (λa=>
  bD (mT p0 a.1) λe=>
  some (e,a.2)) d
def cv:Nat->Int->(List (List Int))->(List Int)->(List Bool)->(List Bool)->Option ((List Int)×(List Bool))
 | 0=>λ_ _ _ _ _=>none
 | n+1=>cO (cv n)
def c7 (p0:(List Int)):Option (List Int):=
 if 0<p0.length/\p0.length<4611686018427387904 then some (p0.mergeSort λx y=>decide (x<=y)) else if p0.length=0 then some p0 else none
def eT (p0:(List (List Int))):Option (List (List Int)):=
 if p0.length<4611686018427387904/\(p0.all λl=> !l.isEmpty)=true then some (p0.mergeSort leI) else none
def jh (p1:(List Bool)) (c:Int) (g:(List Int)) (f:Int) (a:(List (List Int))):Option ((List (List Int))⊕(((List (List Int)))⊕((List (List Int))))):=
 bD (idx g f) λb=>
 bD (idx p1 c) λi=>
 bD (bif i then
 bD (idx p1 b) λj=>
 some j
 else
 some false) λd=>
 bD (bif d then
  bD (idx a b) λk=>
  bD (appS 8 k ([c]:List Int)) λl=>
  bD (idx a b) λn=>
  bD (setI a b (l:(List Int))) λm=>
  some (m:(List (List Int)))
 else
  some (a:(List (List Int)))) λe=>
 some (.inr (.inr (e:(List (List Int)))))
def fC (p0:(List (List Int))) (p1:(List Bool)) (a:Int) (s1:(List (List Int))):Option ((List (List Int))⊕(((List (List Int)))⊕((List (List Int))))):=
 bD (idx p0 a) λb=>
 bD (cntM (jh p1 a b) b.length 0 (s1:(List (List Int)))) λc=>
 aft (λr=>some (.inl r)) (λd=>
  some (.inr (.inr (d:(List (List Int)))))) c
def gU (p0:(List (List Int))) (p1:(List Bool)) (b:Int) (a:(List Int)×(List Bool)):Option ((List (List Int))⊕(((List Int)×(List Bool))⊕((List Int)×(List Bool)))):=
 bD (idx p1 b) λf=>
 bD (bif f then
 bD (idx a.2 b) λg=>
 some (!g)
 else
 some false) λe=>
 bD (bif e then
  bD (bV (2 ^ 64) b p0 a.1 a.2 p1) λd=>
  some (d.1,d.2)
 else
  some (a.1,a.2)) λc=>
 some (.inr (.inr (c.1,c.2)))
def dH (p0:(List (List Int))) (p1:(List Bool)) (g:(List (List Int))) (f:(List Int)×(List Bool)) (a:(List (List Int))×Int×(List Bool)):Option ((List (List Int))⊕(((List (List Int))×Int×(List Bool))⊕((List (List Int))×Int×(List Bool)))):=
 bif decide (0<=a.2.1) then
  bD (idx f.1 a.2.1) λb=>
  bD (idx a.2.2 b) λi=>
  bif i then
   some (.inr (.inr (a.1,((IntKind.i64.wrap (a.2.1-1)):Int),a.2.2)))
  else
   bD (cv (2 ^ 64) b g ([]:List Int) a.2.2 p1) λc=>
   bD (c7 c.1) λj=>
   bD (bif decide (1<(c.1.length:Int)) then
   some true
   else
   bD (idx p0 b) λk=>
   bD (bW k b) λl=>
   some l) λd=>
   bD (bif d then
    bD (appS 24 a.1 ([j]:List (List Int))) λm=>
    some (m:(List (List Int)))
   else
    some (a.1:(List (List Int)))) λe=>
   some (.inr (.inr (e,((IntKind.i64.wrap (a.2.1-1)):Int),c.2)))
 else
  some (.inr (.inl (a.1,a.2.1,a.2.2)))
def lP (p0:(List (List Int))) (p1:(List Bool)):Option ((List (List Int))):=
 bD (mkS 24 (p0.length:Int) (([]:List Int):(List Int))) λi=>
 bD (cntM (fC p0 p1) p0.length 0 (i:(List (List Int)))) λc=>
 aft (λr=>some r) (λf=>
  bD (mkS 1 (p0.length:Int) (false:Bool)) λj=>
  bD (cntM (gU p0 p1) p0.length 0 ((([]:List Int):(List Int)),j)) λd=>
  aft (λr=>some r) (λa=>
   bD (mkS 1 (p0.length:Int) (false:Bool)) λk=>
   bD (cu (dH p0 p1 f a) (2 ^ 64) ((([]:List (List Int)):(List (List Int))),((IntKind.i64.wrap ((a.1.length:Int)-1)):Int),k)) λb=>
   aft (λr=>some r) (λe=>
    bD (eT e.1) λg=>
    some (g:(List (List Int)))) b) d) c
def ek (p1:Pair) (e:(List Int)) (d:Int) (a:(List Int)):Option ((List Int)⊕(((List Int))⊕((List Int)))):=
 bD (idx e d) λb=>
 bD (bW p1.Ask b) λf=>
 bD (bif f then
  bD (appS 8 a ([b]:List Int)) λg=>
  some (g:(List Int))
 else
  some (a:(List Int))) λc=>
 some (.inr (.inr (c:(List Int))))
def ej (p1:Pair) (e:(List (List Int))) (d:Int) (s1:(List Int)):Option ((List Int)⊕(((List Int))⊕((List Int)))):=
 bD (idx e d) λa=>
 bD (cntM (ek p1 a) a.length 0 (s1:(List Int))) λb=>
 aft (λr=>some (.inl r)) (λc=>
  some (.inr (.inr (c:(List Int))))) b
def fL (p0:watch) (p1:Pair):Option ((List Int)):=
 bD (fK p0 p1.Give) λd=>
 bD (lP p0.next d) λa=>
 bD (cntM (ej p1 a) a.length 0 (([]:List Int):(List Int))) λb=>
 aft (λr=>some r) (λc=>
  bD (c7 c) λe=>
  some (e:(List Int))) b
def eC (p0:watch) (a:Int) (s1:(List Int)):Option ((List Int)⊕(((List Int))⊕((List Int)))):=
 bD (idx p0.pairs a) λc=>
 bD (fL p0 c) λd=>
 bD (bif decide (0<(d.length:Int)) then
  bD (appS 8 s1 ([a]:List Int)) λe=>
  some (e:(List Int))
 else
  some (s1:(List Int))) λb=>
 some (.inr (.inr (b:(List Int))))
def ef (p0:watch):Option ((List Int)):=
 bD (cntM (eC p0) p0.pairs.length 0 (([]:List Int):(List Int))) λa=>
 aft (λr=>some r) (λb=>
  some (b:(List Int))) a
def jG (p0:Sig) (p1:Machine) (p2:(List Clause)):Option ((List Int)):=
 bD (gu p0 p1 p2) λa=>
 bif (!a.2) then
  some (([]:List Int):(List Int))
 else
  bD (guardS a.1.isSome) λ_g348=>
  bD (ef (a.1.getD (⟨([]:List (List Int)),([]:List (List Int)),([]:List Pair)⟩:watch))) λb=>
  some (b:(List Int))
def gE (p0:Sig) (p1:Machine) (a:Int) (s1:Unit):Option (Bool⊕((Unit)⊕(Unit))):=
 bD (idx p1.Next a) λe=>
 bD (eF p0) λf=>
 bD (bif ((e.length:Int) !=f) then
 some true
 else
 bD (idx p1.Out a) λg=>
 bD (idx p1.Next a) λi=>
 some ((g.length:Int) !=(i.length:Int))) λb=>
 bD (bif b then
 some true
 else
 bD (idx p1.Next a) λj=>
 bD (eO j (p1.Next.length:Int)) λk=>
 some (!k)) λc=>
 bD (bif c then
 some true
 else
 bD (idx p1.Out a) λl=>
 bD (dF p0.Out) λm=>
 bD (eO l m) λn=>
 some (!n)) λd=>
 bif d then
  some (.inl (false:Bool))
 else
  some (.inr (.inr ()))
def iX (p0:Sig) (p1:Machine):Option (Bool):=
 bD (jo p0) λd=>
 bD (bif (!d) then
 some true
 else
 bD (en (p1.Next.length:Int) 1 48) λe=>
 some (!e)) λa=>
 bD (bif a then
 some true
 else
 some ((p1.Out.length:Int) !=(p1.Next.length:Int))) λb=>
 bif b then
  some (false:Bool)
 else
  bD (cntM (gE p0 p1) p1.Next.length 0 ()) λc=>
  aft (λr=>some r) (λf=>
   some (true:Bool)) c
def fw (p0:Sig) (p1:(List Int)):Option (Bool):=
 bD (bif decide ((p1.length:Int)<=600) then
 bD (eF p0) λb=>
 bD (eO p1 b) λc=>
 some c
 else
 some false) λa=>
 some (a:Bool)
def gO (p0:Machine) (p2:(List Int)) (a:Int) (s1:Int):Option (Int⊕((Int)⊕(Int))):=
 bD (idx p2 a) λc=>
 bD (idx p0.Next s1) λb=>
 bD (idx b c) λd=>
 some (.inr (.inr (d:Int)))
def gN (p0:Machine) (p1:Int) (p2:(List Int)):Option (Int):=
 bD (cntM (gO p0 p2) p2.length 0 (p1:Int)) λa=>
 aft (λr=>some r) (λb=>
  some (b:Int)) a
def fP (p0:Sig) (p1:Machine) (p3:(List Int)) (a:Int) (s1:Int×(List Int)):Option ((List Int)⊕((Int×(List Int))⊕(Int×(List Int)))):=
 bD (idx p3 a) λc=>
 bD (idx p3 a) λf=>
 bD (idx p1.Out s1.1) λb=>
 bD (idx b c) λd=>
 bD (eF p0) λe=>
 bD (appS 8 s1.2 ([(IntKind.i64.wrap ((IntKind.i64.wrap (d * e))+f))]:List Int)) λg=>
 bD (idx p3 a) λj=>
 bD (idx p1.Next s1.1) λi=>
 bD (idx i j) λk=>
 some (.inr (.inr (k,g)))
def fI (p0:Sig) (p1:Machine) (p2:Int) (p3:(List Int)):Option ((List Int)):=
 bD (cntM (fP p0 p1 p3) p3.length 0 (p2,(([]:List Int):(List Int)))) λa=>
 aft (λr=>some r) (λb=>
  some (b.2:(List Int))) a
def eE (p1:Machine) (p2:Word) (s1:(List Int)×Int):Option (Word⊕(((List Int)×Int)⊕((List Int)×Int))):=
 bD (ia s1.1 s1.2) λa=>
 bif decide (a<0) then
  bD (appS 8 s1.1 ([s1.2]:List Int)) λb=>
  bD (gN p1 s1.2 p2.Loop) λc=>
  some (.inr (.inr (b,c)))
 else
  some (.inr (.inl (s1.1,s1.2)))
def dY (p0:Sig) (p1:Machine) (p2:Word) (e:(List Int)×Int) (f:Int) (c:Int) (a:(List Int)×(List Int)):Option (Word⊕(((List Int)×(List Int))⊕((List Int)×(List Int)))):=
 bD (idx e.1 c) λg=>
 bD (fI p0 p1 g p2.Loop) λd=>
 bD (bif decide (c<f) then
  bD (appS 8 a.1 d) λi=>
  some (i,a.2)
 else
  bD (appS 8 a.2 d) λj=>
  some (a.1,j)) λb=>
 some (.inr (.inr (b.1,b.2)))
def iY (p0:Sig) (p1:Machine) (p2:Word):Option (Word):=
 bD (iX p0 p1) λj=>
 bD (bif (!j) then
 some true
 else
 bD (fw p0 p2.Stem) λk=>
 some (!k)) λd=>
 bD (bif d then
 some true
 else
 bD (fw p0 p2.Loop) λl=>
 some (!l)) λe=>
 bD (bif e then
 some true
 else
 some ((p2.Loop.length:Int)==0)) λf=>
 bif f then
  some ((⟨([]:List Int),([]:List Int)⟩:Word):Word)
 else
  bD (gN p1 0 p2.Stem) λm=>
  bD (cu (eE p1 p2) (2 ^ 64) ((([]:List Int):(List Int)),m)) λg=>
  aft (λr=>some r) (λa=>
   bD (ia a.1 a.2) λn=>
   bD (fI p0 p1 0 p2.Stem) λo=>
   bD (cntM (dY p0 p1 p2 a n) a.1.length 0 (o,(([]:List Int):(List Int)))) λi=>
   aft (λr=>some r) (λb=>
    bD (bif decide (600<(b.1.length:Int)) then
    some true
    else
    some (decide (600<(b.2.length:Int)))) λc=>
    bif c then
     some ((⟨([]:List Int),([]:List Int)⟩:Word):Word)
    else
     some ((⟨b.1,b.2⟩:Word):Word)) i) g
def l7 (p0:Word) (p1:Int):Option (Bool):=
 bD (bif decide (600<(p0.Stem.length:Int)) then
 some true
 else
 some (decide (600<(p0.Loop.length:Int)))) λa=>
 bD (bif a then
 some true
 else
 some ((p0.Loop.length:Int)==0)) λb=>
 bif b then
  some (false:Bool)
 else
  bD (eO p0.Stem p1) λd=>
  bD (bif d then
  bD (eO p0.Loop p1) λe=>
  some e
  else
  some false) λc=>
  some (c:Bool)
def fO (p0:Sig) (p1:Word):Option (Bool):=
 bD (jo p0) λd=>
 bD (bif d then
 bD (dx p0) λb=>
 bD (l7 p1 b) λc=>
 some c
 else
 some false) λa=>
 some (a:Bool)
def fF (p0:(List Int)) (p1:(List Int)) (a:Int) (s1:Unit):Option (Bool⊕((Unit)⊕(Unit))):=
 bD (idx p0 a) λb=>
 bD (dZ p1 b) λc=>
 bif (!c) then
  some (.inl (false:Bool))
 else
  some (.inr (.inr ()))
def i8 (p0:(List Int)) (p1:(List Int)):Option (Bool):=
 bD (cntM (fF p0 p1) p0.length 0 ()) λa=>
 aft (λr=>some r) (λb=>
  some (true:Bool)) a
def fG (p0:Clause) (p1:(List Int)) (p2:Int) (a:Int) (s1:Unit):Option (Bool⊕((Unit)⊕(Unit))):=
 bD (bif decide ((IntKind.i64.wrap (a+1))<(p1.length:Int)) then
  some ((IntKind.i64.wrap (a+1)):Int)
 else
  some (p2:Int)) λc=>
 bD (idx p1 a) λd=>
 bD (dZ p0.A d) λe=>
 bD (bif e then
 bD (idx p1 c) λf=>
 bD (dZ p0.B f) λg=>
 some (!g)
 else
 some false) λb=>
 bif b then
  some (.inl (false:Bool))
 else
  some (.inr (.inr ()))
def jM (p0:Clause) (p1:(List Int)) (p2:Int):Option (Bool):=
 bD (cntM (fG p0 p1 p2) p1.length 0 ()) λa=>
 aft (λr=>some r) (λb=>
  some (true:Bool)) a
def fH (p0:(List Int)) (p1:(List Int)) (a:Int) (s1:Unit):Option (Bool⊕((Unit)⊕(Unit))):=
 bD (idx p0 a) λb=>
 bD (dZ p1 b) λc=>
 bif c then
  some (.inl (true:Bool))
 else
  some (.inr (.inr ()))
def er (p0:(List Int)) (p1:(List Int)):Option (Bool):=
 bD (cntM (fH p0 p1) p0.length 0 ()) λa=>
 aft (λr=>some r) (λb=>
  some (false:Bool)) a
def eo (p0:Clause) (p2:(List Int)) (a:Int) (s1:Unit):Option (Bool⊕((Unit)⊕(Unit))):=
 bD (idx p2 a) λc=>
 bD (dZ p0.A c) λd=>
 bD (bif d then
 bD (subS p2 a (p2.length:Int)) λe=>
 bD (er e p0.B) λf=>
 some (!f)
 else
 some false) λb=>
 bif b then
  some (.inl (false:Bool))
 else
  some (.inr (.inr ()))
def iZ (p0:Clause) (p1:Word) (p2:(List Int)):Option (Bool):=
 bD (er p1.Loop p0.B) λb=>
 bif b then
  some (true:Bool)
 else
  bD (cntM (eo p0 p2) p2.length 0 ()) λa=>
  aft (λr=>some r) (λc=>
   some (true:Bool)) a
def dR (p0:Sig) (p1:Clause) (p2:Word):Option (Bool):=
 bD (iI p0 p1) λd=>
 bD (bif (!d) then
 some true
 else
 bD (fO p0 p2) λe=>
 some (!e)) λb=>
 bif b then
  some (false:Bool)
 else
  bD (dw p2.Stem) λf=>
  bD (appS 8 f p2.Loop) λa=>
  bif (p1.Kind==1) then
   bD (i8 a p1.A) λg=>
   some (g:Bool)
  else
   bif (p1.Kind==2) then
    bD (jM p1 a (p2.Stem.length:Int)) λi=>
    some (i:Bool)
   else
    bif (p1.Kind==3) then
     bD (iZ p1 p2 a) λj=>
     some (j:Bool)
    else
     bif (p1.Kind==4) then
      bD (er p2.Loop p1.A) λk=>
      some (k:Bool)
     else
      bif (p1.Kind==5) then
       bD (i8 p2.Loop p1.A) λl=>
       some (l:Bool)
      else
       bif (p1.Kind==6) then
        bD (er a p1.A) λm=>
        some (m:Bool)
       else
        bD (er p2.Loop p1.A) λn=>
        bD (bif (!n) then
        some true
        else
        bD (er p2.Loop p1.B) λo=>
        some o) λc=>
        some (c:Bool)
def dD (p0:Sig) (p1:(List Clause)) (p2:Word) (a:Int) (s1:Unit):Option (Int⊕((Unit)⊕(Unit))):=
 bD (idx p1 a) λb=>
 bD (dR p0 b p2) λc=>
 bif (!c) then
  some (.inl (a:Int))
 else
  some (.inr (.inr ()))
def eJ (p0:Sig) (p1:(List Clause)) (p2:Word):Option (Int):=
 bD (d9 p0 p1) λc=>
 bD (bif (!c) then
 some true
 else
 bD (fO p0 p2) λd=>
 some (!d)) λa=>
 bif a then
  some ((-2):Int)
 else
  bD (cntM (dD p0 p1 p2) p1.length 0 ()) λb=>
  aft (λr=>some r) (λe=>
   some ((-1):Int)) b
def jH (p0:Sig) (p1:Machine) (p2:(List Clause)):Option (Bool):=
 bD (gu p0 p1 p2) λa=>
 bD (bif a.2 then
 bD (guardS a.1.isSome) λ_g432=>
 bD (ef (a.1.getD (⟨([]:List (List Int)),([]:List (List Int)),([]:List Pair)⟩:watch))) λc=>
 some ((c.length:Int)==0)
 else
 some false) λb=>
 some (b:Bool)
def lO (p0:Word) (p1:Int):Option (Bool):=
 bD (bif decide ((p0.Stem.length:Int)<=600) then
 some (decide (1<=(p0.Loop.length:Int)))
 else
 some false) λa=>
 bD (bif a then
 some (decide ((p0.Loop.length:Int)<=600))
 else
 some false) λb=>
 bD (bif b then
 bD (ez p0.Stem p1) λe=>
 some e
 else
 some false) λc=>
 bD (bif c then
 bD (ez p0.Loop p1) λf=>
 some f
 else
 some false) λd=>
 some (d:Bool)
def gt (p0:(List Int)) (c1:Machine) (c3:Sig) (b:Int) (s1:(List Int)×Int):Option (((List Int)×Int)⊕(((List Int)×Int)⊕((List Int)×Int))):=
 bD (idx p0 b) λa=>
 bD (idx c1.Out s1.2) λc=>
 bD (idx c a) λd=>
 bD (gk c3) λe=>
 bD (appS 8 s1.1 ([(IntKind.i64.wrap ((IntKind.i64.wrap (d * e))+a))]:List Int)) λf=>
 bD (idx c1.Next s1.2) λg=>
 bD (idx g a) λi=>
 some (.inr (.inr (f,i)))
def iS (p0:(List Int)) (c0:(List Int)) (c1:Machine) (c2:Int) (c3:Sig):Option ((List Int)×Int):=
 bD (cntM (gt p0 c1 c3) p0.length 0 (c0,c2)) λb=>
 aft (λr=>some r) (λa=>
  some (a.1,a.2)) b
def ji (p0:Sig) (p1:Machine) (p2:Word) (s1:(List Int)×(List Int)×Int):Option ((Word×Bool)⊕(((List Int)×(List Int)×Int)⊕((List Int)×(List Int)×Int))):=
 bD (bW s1.1 s1.2.2) λb=>
 bif (!b) then
  bD (appS 8 s1.1 ([s1.2.2]:List Int)) λc=>
  bD (iS p2.Loop s1.2.1 p1 s1.2.2 p0) λa=>
  some (.inr (.inr (c,a.1,a.2)))
 else
  some (.inr (.inl (s1.1,s1.2.1,s1.2.2)))
def lQ (p0:Sig) (p1:Machine) (p2:Word):Option (Word×Bool):=
 bD (iS p2.Stem ([]:List Int) p1 0 p0) λd=>
 bD (cu (ji p0 p1 p2) (2 ^ 64) ((([]:List Int):(List Int)),d.1,d.2)) λg=>
 aft (λr=>some r) (λa=>
  bD (db a.1 a.2.2) λe=>
  bD (subS a.2.1 0 (IntKind.i64.wrap ((p2.Stem.length:Int)+(IntKind.i64.wrap (e * (p2.Loop.length:Int)))))) λi=>
  bD (subS a.2.1 (IntKind.i64.wrap ((p2.Stem.length:Int)+(IntKind.i64.wrap (e * (p2.Loop.length:Int))))) (a.2.1.length:Int)) λj=>
  bD (appS 8 ([]:List Int) i) λb=>
  bD (appS 8 ([]:List Int) j) λc=>
  bD (bif decide ((((⟨b,c⟩:Word).Stem).length:Int)<=600) then
  some (decide ((((⟨b,c⟩:Word).Loop).length:Int)<=600))
  else
  some false) λf=>
  some (((⟨b,c⟩:Word):Word),f)) g
def lN (p0:Sig) (p1:Machine) (p2:Word):Option (Word):=
 bD (lw p0) λd=>
 bD (bif (!d) then
 some true
 else
 bD (iQ p0 p1) λe=>
 some (!e)) λb=>
 bD (bif b then
 some true
 else
 bD (gk p0) λf=>
 bD (lO p2 f) λg=>
 some (!g)) λc=>
 bif c then
  some ((⟨([]:List Int),([]:List Int)⟩:Word):Word)
 else
  bD (lQ p0 p1 p2) λa=>
  bif (!a.2) then
   some ((⟨([]:List Int),([]:List Int)⟩:Word):Word)
  else
   some (a.1:Word)
def d7 (p0:Int) (c0:Clause):Option (Bool):=
 bD (bW c0.A p0) λa=>
 some (a:Bool)
def cP (p0:Int) (c1_0:Clause):Option (Bool):=
 bD (d7 p0 c1_0) λa=>
 some ((!a):Bool)
def ck (p0:(List Int)) (c1_0_0:Clause) (a:Int) (s1:Unit):Option (Int⊕((Unit)⊕(Unit))):=
 bD (idx p0 a) λb=>
 bD (cP b c1_0_0) λc=>
 bif c then
  some (.inl (a:Int))
 else
  some (.inr (.inr ()))
def cq (p0:(List Int)) (c1_0_0:Clause):Option (Int):=
 bD (cntM (ck p0 c1_0_0) p0.length 0 ()) λa=>
 aft (λr=>some r) (λb=>
  some ((-1):Int)) a
def bX (p0:(List Int)) (c1_0_0:Clause):Option (Bool):=
 bD (cq p0 c1_0_0) λa=>
 some (decide (0<=a):Bool)
def eA (p0:Int) (c0:Clause):Option (Bool):=
 bD (bW c0.B p0) λa=>
 some (a:Bool)
def cH (p0:(List Int)) (c1_0:Clause) (a:Int) (s1:Unit):Option (Int⊕((Unit)⊕(Unit))):=
 bD (idx p0 a) λb=>
 bD (eA b c1_0) λc=>
 bif c then
  some (.inl (a:Int))
 else
  some (.inr (.inr ()))
def cM (p0:(List Int)) (c1_0:Clause):Option (Int):=
 bD (cntM (cH p0 c1_0) p0.length 0 ()) λa=>
 aft (λr=>some r) (λb=>
  some ((-1):Int)) a
def cn (p0:(List Int)) (c1_0:Clause):Option (Bool):=
 bD (cM p0 c1_0) λa=>
 some (decide (0<=a):Bool)
def cG (p0:(List Int)) (c1_0:Clause) (a:Int) (s1:Unit):Option (Int⊕((Unit)⊕(Unit))):=
 bD (idx p0 a) λb=>
 bD (d7 b c1_0) λc=>
 bif c then
  some (.inl (a:Int))
 else
  some (.inr (.inr ()))
def cL (p0:(List Int)) (c1_0:Clause):Option (Int):=
 bD (cntM (cG p0 c1_0) p0.length 0 ()) λa=>
 aft (λr=>some r) (λb=>
  some ((-1):Int)) a
def cg (p0:(List Int)) (c1_0:Clause):Option (Bool):=
 bD (cL p0 c1_0) λa=>
 some (decide (0<=a):Bool)
def fB (p0:Clause) (b:(List Int)) (a:Int) (s1:Unit):Option (Bool⊕((Unit)⊕(Unit))):=
 bD (idx b (IntKind.i64.wrap (a-1))) λd=>
 bD (d7 d p0) λe=>
 bD (bif e then
 bD (idx b a) λf=>
 bD (eA f p0) λg=>
 some (!g)
 else
 some false) λc=>
 bif c then
  some (.inl (false:Bool))
 else
  some (.inr (.inr ()))
def jf (p0:Clause) (f:(List Int)) (e:Int) (d:Bool):Option (Bool⊕((Bool)⊕(Bool))):=
 bD (idx f e) λa=>
 bD (bif d then
 some true
 else
 bD (d7 a p0) λg=>
 some g) λb=>
 bD (bif b then
 bD (eA a p0) λi=>
 some (!i)
 else
 some false) λc=>
 some (.inr (.inr (c:Bool)))
def kw (p0:Clause) (p1:Word):Option (Bool):=
 bD (idx p1.Loop 0) λp=>
 bD (appS 8 ([]:List Int) p1.Stem) λn=>
 bD (appS 8 n p1.Loop) λo=>
 bD (appS 8 o ([p]:List Int)) λa=>
 bif (p0.Kind==1) then
  bD (bX a p0) λq=>
  some ((!q):Bool)
 else
  bif (p0.Kind==2) then
   bD (cntM (fB p0 a) (hV ((a.length:Int)-1)) 1 ()) λe=>
   aft (λr=>some r) (λu=>
    some (true:Bool)) e
  else
   bif (p0.Kind==3) then
    bD (appS 8 ([]:List Int) p1.Stem) λs=>
    bD (appS 8 s p1.Loop) λb=>
    bD (cntM (jf p0 b) b.length 0 (false:Bool)) λf=>
    aft (λr=>some r) (λg=>
     bD (bif (!g) then
     some true
     else
     bD (cn p1.Loop p0) λt=>
     some t) λd=>
     some (d:Bool)) f
   else
    bif (p0.Kind==4) then
     bD (cg p1.Loop p0) λi=>
     some (i:Bool)
    else
     bif (p0.Kind==5) then
      bD (bX p1.Loop p0) λj=>
      some ((!j):Bool)
     else
      bif (p0.Kind==6) then
       bD (cg a p0) λk=>
       some (k:Bool)
      else
       bD (cg p1.Loop p0) λl=>
       bD (bif (!l) then
       some true
       else
       bD (cn p1.Loop p0) λm=>
       some m) λc=>
       some (c:Bool)
def fJ (p0:Clause) (c0:Word):Option (Bool):=
 bD (kw p0 c0) λa=>
 some ((!a):Bool)
def ci (p0:(List Clause)) (c1_0:Word) (a:Int) (s1:Unit):Option (Int⊕((Unit)⊕(Unit))):=
 bD (idx p0 a) λb=>
 bD (fJ b c1_0) λc=>
 bif c then
  some (.inl (a:Int))
 else
  some (.inr (.inr ()))
def co (p0:(List Clause)) (c1_0:Word):Option (Int):=
 bD (cntM (ci p0 c1_0) p0.length 0 ()) λa=>
 aft (λr=>some r) (λb=>
  some ((-1):Int)) a
def ip (p0:Sig) (p1:(List Clause)) (p2:Word):Option (Int):=
 bD (lw p0) λg=>
 bD (bif (!g) then
 some true
 else
 bD (gT p0 p1) λc=>
 some (!c)) λa=>
 bD (bif a then
 some true
 else
 bD (eB p0) λd=>
 bD (lO p2 d) λe=>
 some (!e)) λb=>
 bif b then
  some ((-2):Int)
 else
  bD (co p1 p2) λf=>
  some (f:Int)
def nt (p0:Sig) (p1:(List Clause)) (p2:Word):Option (Bool):=
 bD (ip p0 p1 p2) λa=>
 some ((a==(-1)):Bool)
def kv (p0:Sig) (p1:Machine) (p2:(List Clause)) (p3:Word):Option (Bool):=
 bD (lN p0 p1 p3) λa=>
 bD (bif decide (0<(a.Loop.length:Int)) then
 bD (nt p0 p2 a) λc=>
 some c
 else
 some false) λb=>
 some (b:Bool)
def pJ (p0:(List Int)) (p1:Int):Option (Bool):=
 bD (lC p0 256) λc=>
 bD (bif c then
 bD (dZ p0 p1) λb=>
 some b
 else
 some false) λa=>
 some (a:Bool)
def mo (p0:(List Int)):Option (Bool):=
 bD (vh p0) λq=>
 bif q then
  some (true:Bool)
 else
  bD (p5 p0 930) λb=>
  bD (j4 b (⟨1,1⟩:Sig) 4) λd=>
  bD (jZ (⟨b.b,d.2.1,d.2.2⟩:dice) 2) λc=>
  bD (cV (⟨b.b,c.2.1,c.2.2⟩:dice) 2) λf=>
  bD (bif (f.1==0) then
   bD (gD (⟨1,1⟩:Sig) c.1) λg=>
   bD (bif g.2 then
    some (g.1.Next,g.1.Out)
   else
    some (d.1.Next,d.1.Out)) λl=>
   some (l.1,l.2)
  else
   some (d.1.Next,d.1.Out)) λa=>
  bD (cV (⟨b.b,f.2.1,f.2.2⟩:dice) 4) λi=>
  bD (nv (⟨b.b,i.2.1,i.2.2⟩:dice) 2 i.1) λe=>
  bD (cV (⟨b.b,e.2.1,e.2.2⟩:dice) 4) λj=>
  bD (nv (⟨b.b,j.2.1,j.2.2⟩:dice) 2 (IntKind.i64.wrap (1+j.1))) λm=>
  bD (jG (⟨1,1⟩:Sig) (⟨a.1,a.2⟩:Machine) c.1) λn=>
  bD (iY (⟨1,1⟩:Sig) (⟨a.1,a.2⟩:Machine) (⟨e.1,m.1⟩:Word)) λr=>
  bD (eJ (⟨1,1⟩:Sig) c.1 r) λk=>
  bD (jH (⟨1,1⟩:Sig) (⟨a.1,a.2⟩:Machine) c.1) λs=>
  bD (bif (s !=((n.length:Int)==0)) then
  some true
  else
  bD (kv (⟨1,1⟩:Sig) (⟨a.1,a.2⟩:Machine) c.1 (⟨e.1,m.1⟩:Word)) λt=>
  some (t !=(k==(-1)))) λo=>
  bif o then
   some (false:Bool)
  else
   bD (bif (k==(-1)) then
   some true
   else
   bD (pJ n k) λu=>
   some u) λp=>
   some (p:Bool)
def mB (p0:l30Graph) (p1:Int) (p2:Int) (a:Int) (s1:Unit):Option ((Int×(List Int)×(List Int))⊕((Unit)⊕(Unit))):=
 bD (idx p0.of a) λc=>
 bD (bif (c==p1) then
 bD (idx p0.by0 a) λd=>
 some (d==p2)
 else
 some false) λb=>
 bif b then
  some (.inl (a,p0.of,p0.by0))
 else
  some (.inr (.inr ()))
def ma (p0:l30Graph) (p1:Int) (p2:Int):Option (Int×(List Int)×(List Int)):=
 bD (cntM (mB p0 p1 p2) p0.of.length 0 ()) λb=>
 aft (λr=>some r) (λd=>
  bD (appS 8 p0.of ([p1]:List Int)) λa=>
  bD (appS 8 p0.by0 ([p2]:List Int)) λc=>
  some (((IntKind.i64.wrap ((a.length:Int)-1)):Int),a,c)) b
def jW (p0:Sig) (p1:Machine) (p2:Det) (s1:Int×(List Int)×(List Int)×(List (List Int))×(List (List Int))) (a:(List Int)×(List Int)×Int×(List Int)×(List Int)):Option ((l30Graph×Bool)⊕(((List Int)×(List Int)×Int×(List Int)×(List Int))⊕((List Int)×(List Int)×Int×(List Int)×(List Int)))):=
 bD (eF p0) λe=>
 bif decide (a.2.2.1<e) then
  bD (idx a.2.2.2.1 s1.1) λf=>
  bD (idx p1.Out f) λg=>
  bD (idx g a.2.2.1) λc=>
  bD (eF p0) λd=>
  bD (idx a.2.2.2.1 s1.1) λi=>
  bD (idx p1.Next i) λj=>
  bD (idx j a.2.2.1) λk=>
  bD (idx a.2.2.2.2 s1.1) λl=>
  bD (idx p2.Next l) λm=>
  bD (idx m (IntKind.i64.wrap ((IntKind.i64.wrap (c * d))+a.2.2.1))) λn=>
  bD (ma (⟨a.2.2.2.1,a.2.2.2.2,s1.2.2.2.1,s1.2.2.2.2⟩:l30Graph) k n) λb=>
  bD (appS 8 a.1 ([b.1]:List Int)) λo=>
  bD (appS 8 a.2.1 ([(IntKind.i64.wrap ((IntKind.i64.wrap (c * d))+a.2.2.1))]:List Int)) λp=>
  some (.inr (.inr (o,p,((IntKind.i64.wrap (a.2.2.1+1)):Int),b.2.1,b.2.2)))
 else
  some (.inr (.inl (a.1,a.2.1,a.2.2.1,a.2.2.2.1,a.2.2.2.2)))
def jV (p0:Sig) (p1:Machine) (p2:Det) (s1:Int×(List Int)×(List Int)×(List (List Int))×(List (List Int))):Option ((l30Graph×Bool)⊕((Int×(List Int)×(List Int)×(List (List Int))×(List (List Int)))⊕(Int×(List Int)×(List Int)×(List (List Int))×(List (List Int))))):=
 bif decide (s1.1<(s1.2.1.length:Int)) then
  bD (cu (jW p0 p1 p2 s1) (2 ^ 64) ((([]:List Int):(List Int)),(([]:List Int):(List Int)),(0:Int),s1.2.1,s1.2.2.1)) λb=>
  aft (λr=>some (.inl r)) (λa=>
   bif decide (256<(a.2.2.2.1.length:Int)) then
    some (.inl (((⟨([]:List Int),([]:List Int),([]:List (List Int)),([]:List (List Int))⟩:l30Graph):l30Graph),false))
   else
    bD (appS 24 s1.2.2.2.1 ([a.1]:List (List Int))) λc=>
    bD (appS 24 s1.2.2.2.2 ([a.2.1]:List (List Int))) λd=>
    some (.inr (.inr (((IntKind.i64.wrap (s1.1+1)):Int),a.2.2.2.1,a.2.2.2.2,c,d)))) b
 else
  some (.inr (.inl (s1.1,s1.2.1,s1.2.2.1,s1.2.2.2.1,s1.2.2.2.2)))
def mD (p0:Sig) (p1:Machine) (p2:Det):Option (l30Graph×Bool):=
 bD (ma (⟨([]:List Int),([]:List Int),([]:List (List Int)),([]:List (List Int))⟩:l30Graph) 0 0) λb=>
 bD (cu (jV p0 p1 p2) (2 ^ 64) ((0:Int),b.2.1,b.2.2,(([]:List (List Int)):(List (List Int))),(([]:List (List Int)):(List (List Int))))) λc=>
 aft (λr=>some r) (λa=>
  some (((⟨a.2.1,a.2.2.1,a.2.2.2.1,a.2.2.2.2⟩:l30Graph):l30Graph),true)) c
def mC (p0:l30Graph) (p1:(List Int)) (a:Int) (s1:(List Int)):Option ((List Int)⊕(((List Int))⊕((List Int)))):=
 bD (idx p0.by0 a) λc=>
 bD (dZ p1 c) λd=>
 bD (bif d then
  bD (appS 8 s1 ([a]:List Int)) λe=>
  some (e:(List Int))
 else
  some (s1:(List Int))) λb=>
 some (.inr (.inr (b:(List Int))))
def nK (p0:l30Graph) (p1:(List Int)):Option ((List Int)):=
 bD (cntM (mC p0 p1) p0.by0.length 0 (([]:List Int):(List Int))) λa=>
 aft (λr=>some r) (λb=>
  some (b:(List Int))) a
def jp (p2:Det) (b:l30Graph×Bool) (a:Int) (s1:(List Pair)):Option (((List (List Int))×(List Pair)×Bool)⊕(((List Pair))⊕((List Pair)))):=
 bD (idx p2.Pairs a) λc=>
 bD (idx p2.Pairs a) λe=>
 bD (nK b.1 c.Ask) λd=>
 bD (nK b.1 e.Give) λf=>
 bD (appS 48 s1 ([(⟨d,f⟩:Pair)]:List Pair)) λg=>
 some (.inr (.inr (g:(List Pair))))
def rG (p0:Sig) (p1:Machine) (p2:Det):Option ((List (List Int))×(List Pair)×Bool):=
 bD (iX p0 p1) λe=>
 bD (bif (!e) then
 some true
 else
 bD (jU p0 p2) λf=>
 some (!f)) λb=>
 bif b then
  some ((([]:List (List Int)):(List (List Int))),(([]:List Pair):(List Pair)),false)
 else
  bD (mD p0 p1 p2) λa=>
  bif (!a.2) then
   some ((([]:List (List Int)):(List (List Int))),(([]:List Pair):(List Pair)),false)
  else
   bD (cntM (jp p2 a) p2.Pairs.length 0 (([]:List Pair):(List Pair))) λc=>
   aft (λr=>some r) (λd=>
    some (a.1.next,d,true)) c
def oL (p0:Sig) (p1:Machine) (p2:(List Clause)):Option ((List (List Int))×(List Pair)×Bool):=
 bD (da p0 p2) λb=>
 bif (!b.2) then
  some ((([]:List (List Int)):(List (List Int))),(([]:List Pair):(List Pair)),false)
 else
  bD (rG p0 p1 b.1) λa=>
  some (a.1,a.2.1,a.2.2)
end Go.Proofs.YtleekpaohfpooaaGreat
