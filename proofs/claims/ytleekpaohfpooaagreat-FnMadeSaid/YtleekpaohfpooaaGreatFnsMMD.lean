/- The functions on data. By program. -/
import Derived.Test.YtleekpaohfpooaaGreatTypesMD
import Derived.Test.YtleekpaohfpooaaGreatCmpMD
import Derived.Test.YtleekpaohfpooaaGreatCompMD
set_option linter.unusedVariables false
set_option linter.unusedSimpArgs false
open Int renaming tmod → Dy, toNat → Dq
open Go.IntKind renaming bits → Dz, i64 → DA, u64 → DB, wrap → Dr
open Option renaming bind → Dl
namespace Go.Proofs.YtleekpaohfpooaaGreat
open Go Go.Wk Go.Proofs
set_option maxRecDepth 100000
set_option maxHeartbeats 1000000
def xR (p0:VI):Option Bool:=
 some (decide (4096<(p0.length:Int)):Bool)
def mR (p0:VI) (a:Int) (s1:Int):Option (dice⊕(Int⊕Int)):=
 Dl (idx p0 a) λb=>
 some (.inr (.inr ((Dr .u64 ((Dr .u64 ((Dr .u64 (s1 * 1099511628211))+(Dr .u64 b)))+3)):Int)))
def r6 (p0:VI) (p1:Int):Option (dice):=
 Dl (cntM (mR p0) p0.length 0 ((Dr .u64 ((Dr .u64 (p1 * 7919))+(Dr .u64 (p0.length:Int)))):Int)) λa=>
 aft some (λb=>
  some ((⟨p0,0,b⟩:dice):dice)) a
def eF (p0:dice) (p1:Int):Option (Int×Int×Int):=
 Dl (bif decide (p0.i<(p0.b.length:Int)) then
  Dl (idx p0.b p0.i) λb=>
  some (((Dr .i64 ((Dr .i64 (Dr .u64 (BitVec.toNat (BitVec.ofInt (Dz DB) (Int.fdiv (Dr .u64 ((Dr .u64 (p0.h * 6364136223846793005))+1442695040888963407)) (2 ^ (min (Dq 33) (Dz DB)))) &&& BitVec.ofInt (Dz DB) 16777215))))+(Dr .i64 b))):Int),((Dr .i64 (p0.i+1)):Int))
 else
  some (((Dr .i64 (Dr .u64 (BitVec.toNat (BitVec.ofInt (Dz DB) (Int.fdiv (Dr .u64 ((Dr .u64 (p0.h * 6364136223846793005))+1442695040888963407)) (2 ^ (min (Dq 33) (Dz DB)))) &&& BitVec.ofInt (Dz DB) 16777215)))):Int),p0.i)) λa=>
 Dl (nz p1) λ_z55=>
 some (((Dy a.1 p1):Int),a.2,((Dr .u64 ((Dr .u64 (p0.h * 6364136223846793005))+1442695040888963407)):Int))
def gV (p0:dice) (b:Int×Int×Int) (e:Int) (a:Int×Int×VI×VI):Option ((VC×Int×Int)⊕((Int×Int×VI×VI)⊕(Int×Int×VI×VI))):=
 Dl (eF (⟨p0.b,a.1,a.2.1⟩:dice) 2) λc=>
 Dl (bif (c.1==0) then
  Dl (appS 8 a.2.2.1 ([e]:VI)) λl=>
  some (l:VI)
 else
  some (a.2.2.1:VI)) λj=>
 Dl (eF (⟨p0.b,c.2.1,c.2.2⟩:dice) 2) λd=>
 Dl (bif (d.1==0) then
 Dl (bif ((Dr .i64 (1+b.1))==2) then
 some true
 else
 some ((Dr .i64 (1+b.1))==3)) λf=>
 Dl (bif f then
 some true
 else
 some ((Dr .i64 (1+b.1))==7)) λg=>
 some g
 else
 some false) λi=>
 Dl (bif i then
  Dl (appS 8 a.2.2.2 ([e]:VI)) λm=>
  some (m:VI)
 else
  some (a.2.2.2:VI)) λk=>
 some (.inr (.inr (d.2.1,d.2.2,j,k)))
def gU (p0:dice) (s1:VC×Int×Int×Int):Option ((VC×Int×Int)⊕((VC×Int×Int×Int)⊕(VC×Int×Int×Int))):=
 bif decide (0<s1.2.1) then
  Dl (eF (⟨p0.b,s1.2.2.1,s1.2.2.2⟩:dice) 7) λb=>
  Dl (cntM (gV p0 b) (Dq (4-0)) 0 (b.2.1,b.2.2,([]:VI),([]:VI))) λc=>
  aft (λd=>some (.inl d)) (λa=>
   Dl (appS 56 s1.1 ([(⟨(Dr .i64 (1+b.1)),a.2.2.1,a.2.2.2⟩:Clause)]:VC)) λe=>
   some (.inr (.inr (e,((Dr .i64 (s1.2.1-1)):Int),a.1,a.2.1)))) c
 else
  some (.inr (.inl (s1.1,s1.2.1,s1.2.2.1,s1.2.2.2)))
def kr (p0:dice) (p1:Int):Option (VC×Int×Int):=
 Dl (eF p0 (Dr .i64 (p1+1))) λb=>
 Dl (cd (gU p0) (2 ^ 64) (([]:VC),b.1,b.2.1,b.2.2)) λc=>
 aft some (λa=>
  some (a.1,a.2.2.1,a.2.2.2)) c
def kQ (p0:Sig):Option Bool:=
 Dl (bif decide (1<=p0.In) then
 some (decide (p0.In<=2))
 else
 some false) λa=>
 Dl (bif a then
 some (decide (1<=p0.Out))
 else
 some false) λb=>
 Dl (bif b then
 some (decide (p0.Out<=2))
 else
 some false) λc=>
 some (c:Bool)
def dI (p0:Sig):Option Int:=
 Dl (nn (Dr .i64 (p0.In+p0.Out))) λ_z8=>
 some ((Dr .i64 (1 * 2 ^ (min (Dq (Dr .i64 (p0.In+p0.Out))) (Dz DA)))):Int)
def lD (p0:VI) (p1:Int) (a:Int) (s1:Unit):Option (Bool⊕(Unit⊕Unit)):=
 Dl (idx p0 a) λb=>
 Dl (bif decide (b<0) then
 some true
 else
 some (decide (p1<=b))) λc=>
 Dl (bif c then
 some true
 else
 Dl (bif decide (0<a) then
 Dl (idx p0 (Dr .i64 (a-1))) λf=>
 some (decide (b<=f))
 else
 some false) λd=>
 some d) λe=>
 bif e then
  some (.inl (false:Bool))
 else
  some (.inr (.inr ()))
def kP (p0:VI) (p1:Int):Option Bool:=
 Dl (cntM (lD p0 p1) p0.length 0 ()) λa=>
 aft some (λb=>
  some (true:Bool)) a
def mo (p0:Int):Option Bool:=
 Dl (bif (p0==2) then
 some true
 else
 some (p0==3)) λb=>
 Dl (bif b then
 some true
 else
 some (p0==7)) λa=>
 some (a:Bool)
def lA (p0:Sig) (p1:Clause):Option Bool:=
 Dl (bif decide (p1.Kind<1) then
 some true
 else
 some (decide (7<p1.Kind))) λa=>
 Dl (bif a then
 some true
 else
 Dl (dI p0) λe=>
 Dl (kP p1.A e) λf=>
 some (!f)) λb=>
 Dl (bif b then
 some true
 else
 Dl (dI p0) λg=>
 Dl (kP p1.B g) λi=>
 some (!i)) λc=>
 bif c then
  some (false:Bool)
 else
  Dl (mo p1.Kind) λj=>
  Dl (bif j then
  some true
  else
  some ((p1.B.length:Int)==0)) λd=>
  some (d:Bool)
def eZ (p0:Clause) (c0:Sig):Option Bool:=
 Dl (lA c0 p0) λa=>
 some ((!a):Bool)
def cm (p0:VC) (c1_0:Sig) (a:Int) (s1:Unit):Option (Int⊕(Unit⊕Unit)):=
 Dl (idx p0 a) λb=>
 Dl (eZ b c1_0) λc=>
 bif c then
  some (.inl (a:Int))
 else
  some (.inr (.inr ()))
def cn (p0:VC) (c1_0:Sig):Option Int:=
 Dl (cntM (cm p0 c1_0) p0.length 0 ()) λa=>
 aft some (λb=>
  some ((-1):Int)) a
def ck (p0:VC) (c1_0:Sig):Option Bool:=
 Dl (cn p0 c1_0) λa=>
 some (decide (0<=a):Bool)
def jq (p0:Sig) (p1:VC):Option Bool:=
 Dl (bif decide ((p1.length:Int)<=3) then
 Dl (ck p1 p0) λb=>
 some (!b)
 else
 some false) λa=>
 some (a:Bool)
def du (p0:VI) (p1:Int) (a:Int) (s1:Unit):Option (Int⊕(Unit⊕Unit)):=
 Dl (idx p0 a) λb=>
 bif (p1==b) then
  some (.inl (a:Int))
 else
  some (.inr (.inr ()))
def cR (p0:VI) (p1:Int):Option Int:=
 Dl (cntM (du p0 p1) p0.length 0 ()) λa=>
 aft some (λb=>
  some ((-1):Int)) a
def bY (p0:VI) (p1:Int):Option Bool:=
 Dl (cR p0 p1) λa=>
 some (decide (0<=a):Bool)
def iJ (p0:Int) (p1:Int) (p2:Bool) (c:Bool):Option Int:=
 Dl (bif p2 then
  some (1:Int)
 else
  some (0:Int)) λa=>
 Dl (bif c then
  some (true,(1:Int))
 else
  some (false,(0:Int))) λb=>
 bif (p0==1) then
  some ((if p1<(Dr .i64 (1-a)) then(Dr .i64 (1-a)) else p1):Int)
 else
  bif (p0==2) then
   Dl (bif (p1==2) then
   some true
   else
   Dl (bif (p1==1) then
   some (!b.1)
   else
   some false) λd=>
   some d) λe=>
   bif e then
    some (2:Int)
   else
    some (a:Int)
  else
   bif (p0==3) then
    bif b.1 then
     some (0:Int)
    else
     some ((if p1<a then a else p1):Int)
   else
    bif (p0==4) then
     some (a:Int)
    else
     bif (p0==5) then
      some ((Dr .i64 (1-a)):Int)
     else
      bif (p0==6) then
       some ((if p1<a then a else p1):Int)
      else
       some ((Dr .i64 ((Dr .i64 (2 * a))+b.2)):Int)
def fj (p1:Clause) (c:Int) (a:Int) (b:VI):Option (Det⊕(VI⊕VI)):=
 Dl (bY p1.A a) λd=>
 Dl (bY p1.B a) λe=>
 Dl (iJ p1.Kind c d e) λf=>
 Dl (appS 8 b ([f]:VI)) λg=>
 some (.inr (.inr (g:VI)))
def fi (p0:Sig) (p1:Clause) (f:Int) (e:VV):Option (Det⊕(VV⊕VV)):=
 Dl (dI p0) λa=>
 Dl (rng a) λ_=>
 Dl (cntM (fj p1 f) (Dq (a-0)) 0 ([]:VI)) λb=>
 aft (λc=>some (.inl c)) (λd=>
  Dl (appS 24 e ([d]:VV)) λg=>
  some (.inr (.inr (g:VV)))) b
def kp (p0:Sig) (p1:Clause):Option (Det):=
 Dl (bif (p1.Kind==1) then
  some (true:Bool)
 else
  some ((p1.Kind==5):Bool)) λf=>
 Dl (bif f then
  some ((2:Int),(([1]:VI):VI),([]:VI))
 else
  Dl (bif (p1.Kind==2) then
   some ((3:Int),(([2]:VI):VI),([]:VI))
  else
   Dl (bif (p1.Kind==3) then
    some ((2:Int),(([1]:VI):VI),(([0]:VI):VI))
   else
    Dl (bif (p1.Kind==4) then
     some ((2:Int),(([0,1]:VI):VI),(([1]:VI):VI))
    else
     Dl (bif (p1.Kind==6) then
      some ((2:Int),(([0]:VI):VI),([]:VI))
     else
      some ((4:Int),(([2,3]:VI):VI),(([1,3]:VI):VI))) λe=>
     some (e.1,e.2.1,e.2.2)) λd=>
    some (d.1,d.2.1,d.2.2)) λc=>
   some (c.1,c.2.1,c.2.2)) λb=>
  some (b.1,b.2.1,b.2.2)) λa=>
 Dl (rng a.1) λ_=>
 Dl (cntM (fi p0 p1) (Dq (a.1-0)) 0 ([]:VV)) λg=>
 aft some (λi=>
  some ((⟨i,([(⟨a.2.1,a.2.2⟩:Pair)]:VP)⟩:Det):Det)) g
def cN (p0:(List (Int×Int))) (p1:(Int×Int)) (a:Int) (s1:Unit):Option (Int⊕(Unit⊕Unit)):=
 Dl (idx p0 a) λb=>
 bif ((p1.1==b.1)&&(p1.2==b.2)) then
  some (.inl (a:Int))
 else
  some (.inr (.inr ()))
def cW (p0:(List (Int×Int))) (p1:(Int×Int)):Option Int:=
 Dl (cntM (cN p0 p1) p0.length 0 ()) λa=>
 aft some (λb=>
  some ((-1):Int)) a
def fh (p1:Det) (s1:(List (Int×Int))×Int×VV) (x47:VI) (c:Int) (a:(List (Int×Int))×VI):Option ((Det×Bool)⊕(((List (Int×Int))×VI)⊕((List (Int×Int))×VI))):=
 Dl (idx x47 c) λd=>
 Dl (idx a.1 s1.2.1) λg=>
 Dl (idx p1.Next g.2) λi=>
 Dl (idx i c) λe=>
 Dl (cW a.1 (d,e)) λf=>
 Dl (bif decide (f<0) then
  Dl (appS 16 a.1 ([(d,e)]:List (Int×Int))) λj=>
  some (j,((a.1.length:Int):Int))
 else
  some (a.1,f)) λb=>
 Dl (appS 8 a.2 ([b.2]:VI)) λk=>
 some (.inr (.inr (b.1,k)))
def gP (p0:Det) (p1:Det) (s1:(List (Int×Int))×Int×VV):Option ((Det×Bool)⊕(((List (Int×Int))×Int×VV)⊕((List (Int×Int))×Int×VV))):=
 bif decide (s1.2.1<(s1.1.length:Int)) then
  Dl (idx s1.1 s1.2.1) λe=>
  Dl (idx p0.Next e.1) λb=>
  Dl (cntM (fh p1 s1 b) b.length 0 (s1.1,([]:VI))) λc=>
  aft (λd=>some (.inl d)) (λa=>
   bif decide (48<(a.1.length:Int)) then
    some (.inl (((⟨([]:VV),([]:VP)⟩:Det):Det),false))
   else
    Dl (appS 24 s1.2.2 ([a.2]:VV)) λf=>
    some (.inr (.inr (a.1,((Dr .i64 (s1.2.1+1)):Int),f)))) c
 else
  some (.inr (.inl (s1.1,s1.2.1,s1.2.2)))
def gQ (i:(List (Int×Int))×Int×VV) (d:Int) (e:Pair) (c:Int) (a:VI×VI):Option ((Det×Bool)⊕((VI×VI)⊕(VI×VI))):=
 Dl (idx i.1 c) λb=>
 Dl (idx ([b.1,b.2]:VI) d) λj=>
 Dl (bY e.Ask j) λk=>
 Dl (bif k then
  Dl (appS 8 a.1 ([c]:VI)) λl=>
  some (l:VI)
 else
  some (a.1:VI)) λf=>
 Dl (idx ([b.1,b.2]:VI) d) λm=>
 Dl (bY e.Give m) λn=>
 Dl (bif n then
  Dl (appS 8 a.2 ([c]:VI)) λo=>
  some (o:VI)
 else
  some (a.2:VI)) λg=>
 some (.inr (.inr (f,g)))
def dH (b:(List (Int×Int))×Int×VV) (g:Int) (i:Det) (f:Int) (e:VP):Option ((Det×Bool)⊕(VP⊕VP)):=
 Dl (idx i.Pairs f) λj=>
 Dl (cntM (gQ b g j) b.1.length 0 (([]:VI),([]:VI))) λc=>
 aft (λd=>some (.inl d)) (λa=>
  Dl (appS 48 e ([(⟨a.1,a.2⟩:Pair)]:VP)) λk=>
  some (.inr (.inr (k:VP)))) c
def df (p0:Det) (p1:Det) (f:(List (Int×Int))×Int×VV) (a:Int) (g:VP):Option ((Det×Bool)⊕(VP⊕VP)):=
 Dl (idx ([p0,p1]:List Det) a) λb=>
 Dl (cntM (dH f a b) b.Pairs.length 0 (g:VP)) λc=>
 aft (λd=>some (.inl d)) (λe=>
  some (.inr (.inr (e:VP)))) c
def jh (p0:Det) (p1:Det):Option (Det×Bool):=
 bif decide (4<(Dr .i64 ((p0.Pairs.length:Int)+(p1.Pairs.length:Int)))) then
  some (((⟨([]:VV),([]:VP)⟩:Det):Det),false)
 else
  Dl (cd (gP p0 p1) (2 ^ 64) ((([(0,0)]:List (Int×Int)):(List (Int×Int))),(0:Int),([]:VV))) λb=>
  aft some (λa=>
   Dl (cntM (df p0 p1 a) ([p0,p1]:List Det).length 0 ([]:VP)) λc=>
   aft some (λd=>
    some (((⟨a.2.2,d⟩:Det):Det),true)) c) b
def eV (p0:Sig) (p1:VC) (b:Int) (s1:VV×VP):Option ((Det×Bool)⊕((VV×VP)⊕(VV×VP))):=
 Dl (idx p1 b) λc=>
 Dl (kp p0 c) λd=>
 Dl (jh (⟨s1.1,s1.2⟩:Det) d) λa=>
 bif (!a.2) then
  some (.inl (((⟨([]:VV),([]:VP)⟩:Det):Det),false))
 else
  some (.inr (.inr (a.1.Next,a.1.Pairs)))
def dh (p0:Sig) (p1:VC):Option (Det×Bool):=
 Dl (kQ p0) λd=>
 Dl (bif (!d) then
 some true
 else
 Dl (jq p0 p1) λe=>
 some (!e)) λb=>
 bif b then
  some (((⟨([]:VV),([]:VP)⟩:Det):Det),false)
 else
  Dl (dI p0) λf=>
  Dl (mkS 8 f (0:Int)) λg=>
  Dl (cntM (eV p0 p1) p1.length 0 ((([g]:VV):VV),([]:VP))) λc=>
  aft some (λa=>
   some (((⟨a.1,a.2⟩:Det):Det),true)) c
def dQ (p0:Sig):Option Int:=
 Dl (nn p0.In) λ_z5=>
 some ((Dr .i64 (1 * 2 ^ (min (Dq p0.In) (Dz DA)))):Int)
def cA (p0:VI):Option VI:=
 if 0<p0.length/\p0.length<4611686018427387904 then some (p0.mergeSort λa b=>decide (a<=b)) else if p0.length=0 then some p0 else none
def dy (p0:VI):Option VI:=
 if 0<p0.length/\p0.length<4611686018427387904 then some (Go.Lib.compact p0) else none
def np (p0:Pair):Option (Pair):=
 Dl (appS 8 ([]:VI) p0.Ask) λb=>
 Dl (appS 8 ([]:VI) p0.Give) λa=>
 some ((⟨b,a⟩:Pair):Pair)
def fc (p1:Det) (d:Int) (b:Int) (c:Int) (a:VI):Option ((Arena×VP)⊕(VI⊕VI)):=
 Dl (appS 8 a ([(Dr .i64 ((Dr .i64 ((p1.Next.length:Int)+(Dr .i64 (b * d))))+c))]:VI)) λe=>
 some (.inr (.inr (e:VI)))
def fb (p1:Det) (a:Int) (e:Int) (s1:VI×VV):Option ((Arena×VP)⊕((VI×VV)⊕(VI×VV))):=
 Dl (rng a) λ_=>
 Dl (cntM (fc p1 a e) (Dq (a-0)) 0 ([]:VI)) λb=>
 aft (λc=>some (.inl c)) (λd=>
  Dl (appS 8 s1.1 ([1]:VI)) λf=>
  Dl (appS 24 s1.2 ([d]:VV)) λg=>
  some (.inr (.inr (f,g)))) b
def fg (p1:Det) (e:Int) (b:Int) (c:Int) (d:Int) (a:VI):Option ((Arena×VP)⊕(VI⊕VI)):=
 Dl (idx p1.Next b) λf=>
 Dl (idx f (Dr .i64 ((Dr .i64 (d * e))+c))) λg=>
 Dl (appS 8 a ([g]:VI)) λi=>
 some (.inr (.inr (i:VI)))
def ff (p0:Sig) (p1:Det) (i:Int) (e:Int) (f:Int) (a:VI×VV):Option ((Arena×VP)⊕((VI×VV)⊕(VI×VV))):=
 Dl (nn p0.Out) λ_z68=>
 Dl (rng (Dr .i64 (1 * 2 ^ (min (Dq p0.Out) (Dz DA))))) λ_=>
 Dl (cntM (fg p1 i e f) (Dq ((Dr .i64 (1 * 2 ^ (min (Dq p0.Out) (Dz DA))))-0)) 0 ([]:VI)) λb=>
 aft (λc=>some (.inl c)) (λd=>
  Dl (cA d) λj=>
  Dl (appS 8 a.1 ([0]:VI)) λk=>
  Dl (dy j) λl=>
  Dl (appS 24 a.2 ([l]:VV)) λg=>
  some (.inr (.inr (k,g)))) b
def fd (p0:Sig) (p1:Det) (a:Int) (f:Int) (c:VI×VV):Option ((Arena×VP)⊕((VI×VV)⊕(VI×VV))):=
 Dl (rng a) λ_=>
 Dl (cntM (ff p0 p1 a f) (Dq (a-0)) 0 (c.1,c.2)) λd=>
 aft (λe=>some (.inl e)) (λb=>
  some (.inr (.inr (b.1,b.2)))) d
def eC (p1:Det) (b:Int) (a:VP):Option ((Arena×VP)⊕(VP⊕VP)):=
 Dl (idx p1.Pairs b) λc=>
 Dl (np c) λd=>
 Dl (appS 48 a ([d]:VP)) λe=>
 some (.inr (.inr (e:VP)))
def fK (p0:Sig) (p1:Det):Option (Arena×VP):=
 Dl (dQ p0) λc=>
 Dl (cntM (fb p1 c) p1.Next.length 0 (([]:VI),([]:VV))) λe=>
 aft some (λa=>
  Dl (cntM (fd p0 p1 c) p1.Next.length 0 (a.1,a.2)) λf=>
  aft some (λb=>
   Dl (cntM (eC p1) p1.Pairs.length 0 ([]:VP)) λd=>
   aft some (λg=>
    some (((⟨b.1,b.2⟩:Arena):Arena),g)) d) f) e
def fW (p0:VP) (p1:VI) (p2:Int) (c:Int) (s1:VI×VI):Option (VI⊕((VI×VI)⊕(VI×VI))):=
 Dl (idx p1 c) λa=>
 Dl (idx p0 a) λd=>
 Dl (bY d.Give p2) λe=>
 Dl (bif e then
  Dl (appS 8 s1.1 ([a]:VI)) λf=>
  some (f,s1.2)
 else
  Dl (appS 8 s1.2 ([a]:VI)) λg=>
  some (s1.1,g)) λb=>
 some (.inr (.inr (b.1,b.2)))
def jt (p0:VP) (p1:VI) (p2:Int):Option VI:=
 Dl (cntM (fW p0 p1 p2) p1.length 0 (([]:VI),([]:VI))) λb=>
 aft some (λa=>
  Dl (appS 8 a.1 a.2) λc=>
  some (c:VI)) b
def jx (p0:Place) (c0:VP):Option VI:=
 Dl (jt c0 p0.Record p0.At) λa=>
 some (a:VI)
def dt (p0:VI) (p1:VI) (a:Int) (s1:Unit):Option (Bool⊕(Unit⊕Unit)):=
 Dl (idx p0 a) λb=>
 Dl (idx p1 a) λc=>
 bif (b !=c) then
  some (.inl (false:Bool))
 else
  some (.inr (.inr ()))
def c8 (p0:VI) (p1:VI):Option Bool:=
 bif ((p0.length:Int) !=(p1.length:Int)) then
  some (false:Bool)
 else
  Dl (cntM (dt p0 p1) p0.length 0 ()) λa=>
  aft some (λb=>
   some (true:Bool)) a
def kq (p0:Place) (c0:Int) (a:VI):Option Bool:=
 Dl (bif (p0.At==c0) then
 Dl (c8 p0.Record a) λc=>
 some c
 else
 some false) λb=>
 some (b:Bool)
def cr (p0:VL) (c1_0:Int) (b:VI) (a:Int) (s1:Unit):Option (Int⊕(Unit⊕Unit)):=
 Dl (idx p0 a) λc=>
 Dl (kq c c1_0 b) λd=>
 bif d then
  some (.inl (a:Int))
 else
  some (.inr (.inr ()))
def cz (p0:VL) (c1_0:Int) (a:VI):Option Int:=
 Dl (cntM (cr p0 c1_0 a) p0.length 0 ()) λb=>
 aft some (λc=>
  some ((-1):Int)) b
def mO (p0:VL) (p1:Int) (p2:VI):Option Int:=
 Dl (cz p0 p1 p2) λa=>
 some (a:Int)
def fX (p0:VP) (p1:VI) (p2:Int) (a:Int) (s1:Int×Int):Option (Int⊕((Int×Int)⊕(Int×Int))):=
 Dl (idx p1 a) λb=>
 Dl (idx p0 b) λe=>
 Dl (bY e.Ask p2) λf=>
 Dl (bif f then
  some (a:Int)
 else
  some (s1.1:Int)) λc=>
 Dl (idx p0 b) λg=>
 Dl (bY g.Give p2) λi=>
 Dl (bif i then
  some (a:Int)
 else
  some (s1.2:Int)) λd=>
 some (.inr (.inr (c,d)))
def jw (p0:VP) (p1:VI) (p2:Int):Option Int:=
 Dl (cntM (fX p0 p1 p2) p1.length 0 (((-1):Int),((-1):Int))) λc=>
 aft some (λa=>
  Dl (bif decide (a.1<0) then
  some (decide (a.2<0))
  else
  some false) λb=>
  bif b then
   some (0:Int)
  else
   bif decide (a.2<a.1) then
    some ((Dr .i64 ((Dr .i64 (2 * a.1))+1)):Int)
   else
    some ((Dr .i64 ((Dr .i64 (2 * a.2))+2)):Int)) c
def jy (p0:Place) (c0:VP):Option Int:=
 Dl (jw c0 p0.Record p0.At) λa=>
 some (a:Int)
def kR (p0:Parity) (p1:Int) (p2:Int) (a:VI):Option (Parity):=
 Dl (appS 8 p0.Arena.Owner ([p1]:VI)) λb=>
 Dl (appS 24 p0.Arena.Next ([a]:VV)) λc=>
 Dl (appS 8 p0.Prio ([p2]:VI)) λd=>
 some ((⟨(⟨b,c⟩:Arena),d⟩:Parity):Parity)
def co (c:VI) (g:VI) (f:Int) (a:VL×VI):Option ((Parity×VL×Bool)⊕((VL×VI)⊕(VL×VI))):=
 Dl (idx g f) λd=>
 Dl (mO a.1 d c) λe=>
 Dl (bif decide (e<0) then
  Dl (appS 8 ([]:VI) c) λi=>
  Dl (appS 32 a.1 ([(⟨d,i⟩:Place)]:VL)) λj=>
  some (j,((a.1.length:Int):Int))
 else
  some (a.1,e)) λb=>
 Dl (appS 8 a.2 ([b.2]:VI)) λk=>
 some (.inr (.inr (b.1,k)))
def ci (p0:Arena) (d:VP) (s1:VL×Int×VI×VV×VI):Option ((Parity×VL×Bool)⊕((VL×Int×VI×VV×VI)⊕(VL×Int×VI×VV×VI))):=
 bif decide (s1.2.1<(s1.1.length:Int)) then
  Dl (idx s1.1 s1.2.1) λa=>
  Dl (jx a d) λi=>
  Dl (idx p0.Next a.At) λe=>
  Dl (cntM (co i e) e.length 0 (s1.1,([]:VI))) λf=>
  aft (λg=>some (.inl g)) (λb=>
   bif decide (256<(b.1.length:Int)) then
    some (.inl (((⟨(⟨([]:VI),([]:VV)⟩:Arena),([]:VI)⟩:Parity):Parity),([]:VL),false))
   else
    Dl (cA b.2) λj=>
    Dl (idx p0.Owner a.At) λk=>
    Dl (jy a d) λl=>
    Dl (kR (⟨(⟨s1.2.2.1,s1.2.2.2.1⟩:Arena),s1.2.2.2.2⟩:Parity) k l j) λc=>
    some (.inr (.inr (b.1,((Dr .i64 (s1.2.1+1)):Int),c.Arena.Owner,c.Arena.Next,c.Prio)))) f
 else
  some (.inr (.inl (s1.1,s1.2.1,s1.2.2.1,s1.2.2.2.1,s1.2.2.2.2)))
def cI (p0:Arena) (p1:Place) (b:VP):Option (Parity×VL×Bool):=
 Dl (cd (ci p0 b) (2 ^ 64) ((([p1]:VL):VL),(0:Int),([]:VI),([]:VV),([]:VI))) λc=>
 aft some (λa=>
  some (((⟨(⟨a.2.2.1,a.2.2.2.1⟩:Arena),a.2.2.2.2⟩:Parity):Parity),a.1,true)) c
def ke  (a:Int) (s1:VI):Option ((Parity×VL×Bool)⊕(VI⊕VI)):=
 Dl (appS 8 s1 ([a]:VI)) λb=>
 some (.inr (.inr (b:VI)))
def eh (p0:Arena) (p1:VP) (p2:Int):Option (Parity×VL×Bool):=
 Dl (cntM ke p1.length 0 ([]:VI)) λb=>
 aft some (λc=>
  Dl (cI p0 (⟨p2,c⟩:Place) p1) λa=>
  some (a.1,a.2.1,a.2.2)) b
def n8 (p0:Arena):Option Int:=
 some ((p0.Owner.length:Int):Int)
def lr  (a:Int) (s1:VI):Option (VI⊕(VI⊕VI)):=
 Dl (appS 8 s1 ([a]:VI)) λb=>
 some (.inr (.inr (b:VI)))
def rj (p0:Int):Option VI:=
 Dl (bif decide (p0<0) then
 some true
 else
 some (decide (256<p0))) λa=>
 bif a then
  some ([]:VI)
 else
  Dl (rng p0) λ_=>
  Dl (cntM lr (Dq (p0-0)) 0 ([]:VI)) λb=>
  aft some (λc=>
   some (c:VI)) b
def pP (p0:Arena):Option VI:=
 Dl (n8 p0) λa=>
 Dl (rj a) λb=>
 some (b:VI)
def jv (c:Int) (e:VI) (d:Int) (a:VV):Option (VV⊕(VV⊕VV)):=
 Dl (idx e d) λb=>
 Dl (idx a b) λf=>
 Dl (appS 8 f ([c]:VI)) λg=>
 Dl (idx a b) λj=>
 Dl (setI a b (g:VI)) λi=>
 some (.inr (.inr (i:VV)))
def ju (p0:Arena) (a:Int) (s1:VV):Option (VV⊕(VV⊕VV)):=
 Dl (idx p0.Next a) λb=>
 Dl (cntM (jv a b) b.length 0 (s1:VV)) λc=>
 aft (λd=>some (.inl d)) (λe=>
  some (.inr (.inr (e:VV)))) c
def mP (p0:Arena):Option VV:=
 Dl (mkS 24 (p0.Owner.length:Int) ([]:VI)) λc=>
 Dl (cntM (ju p0) p0.Next.length 0 (c:VV)) λa=>
 aft some (λb=>
  some (b:VV)) a
def ko (p1:VI) (b:Int) (s1:VB):Option (VB⊕(VB⊕VB)):=
 Dl (idx p1 b) λa=>
 Dl (idx s1 a) λd=>
 Dl (setI s1 a true) λc=>
 some (.inr (.inr (c:VB)))
def nX (p0:Arena) (p1:VI):Option VB:=
 Dl (mkS 1 (p0.Owner.length:Int) (false:Bool)) λc=>
 Dl (cntM (ko p1) p1.length 0 (c:VB)) λa=>
 aft some (λb=>
  some (b:VB)) a
def km (p0:VB) (a:Int) (s1:VI):Option (VI⊕(VI⊕VI)):=
 Dl (idx p0 a) λc=>
 Dl (bif c then
  Dl (appS 8 s1 ([a]:VI)) λd=>
  some (d:VI)
 else
  some (s1:VI)) λb=>
 some (.inr (.inr (b:VI)))
def iI (p0:VB):Option VI:=
 Dl (cntM (km p0) p0.length 0 ([]:VI)) λa=>
 aft some (λb=>
  some (b:VI)) a
def lK (p0:Parity) (p1:VI) (b:Int) (s1:Int):Option (Int⊕(Int⊕Int)):=
 Dl (idx p1 b) λc=>
 Dl (idx p0.Prio c) λa=>
 some (.inr (.inr ((if s1<a then a else s1):Int)))
def pT (p0:Parity) (p1:VI):Option Int:=
 Dl (cntM (lK p0 p1) p1.length 0 ((-1):Int)) λa=>
 aft some (λb=>
  some (b:Int)) a
def di (p2:VB) (b:Int) (e:VI) (d:Int) (a:VI):Option (VB⊕(VI⊕VI)):=
 Dl (idx e d) λf=>
 Dl (idx p2 f) λg=>
 Dl (bif g then
  Dl (idx a b) λi=>
  Dl (idx a b) λk=>
  Dl (setI a b (Dr .i64 (i+1))) λj=>
  some (j:VI)
 else
  some (a:VI)) λc=>
 some (.inr (.inr (c:VI)))
def ef (p0:solver) (p1:Int) (p2:VB) (o:VI) (l:Int) (a:VI×VB×VI):Option (VB⊕((VI×VB×VI)⊕(VI×VB×VI))):=
 Dl (idx o l) λb=>
 Dl (idx a.2.1 b) λp=>
 Dl (bif p then
 some true
 else
 Dl (idx p2 b) λq=>
 some (!q)) λi=>
 bif i then
  some (.inr (.inr (a.1,a.2.1,a.2.2)))
 else
  Dl (idx p0.game.Arena.Owner b) λr=>
  bif (r !=p1) then
   Dl (idx a.2.2 b) λs=>
   Dl (bif (s==0) then
    Dl (idx p0.game.Arena.Next b) λg=>
    Dl (cntM (di p2 b g) g.length 0 (a.2.2:VI)) λj=>
    aft (λu=>none) (λk=>
     some (k:VI)) j
   else
    some (a.2.2:VI)) λc=>
   Dl (idx c b) λt=>
   Dl (idx c b) λv=>
   Dl (setI c b (Dr .i64 (t-1))) λe=>
   Dl (idx e b) λm=>
   bif decide (0<m) then
    some (.inr (.inr (a.1,a.2.1,e)))
   else
    Dl (idx a.2.1 b) λn=>
    Dl (setI a.2.1 b true) λf=>
    Dl (appS 8 a.1 ([b]:VI)) λd=>
    some (.inr (.inr (d,f,e)))
  else
   Dl (idx a.2.1 b) λn=>
   Dl (setI a.2.1 b true) λf=>
   Dl (appS 8 a.1 ([b]:VI)) λd=>
   some (.inr (.inr (d,f,a.2.2)))
def fk (p0:solver) (p1:Int) (p2:VB) (s1:VI×VB×VI):Option (VB⊕((VI×VB×VI)⊕(VI×VB×VI))):=
 bif decide (0<(s1.1.length:Int)) then
  Dl (idx s1.1 0) λe=>
  Dl (subS s1.1 1 (s1.1.length:Int)) λf=>
  Dl (idx p0.preds e) λb=>
  Dl (cntM (ef p0 p1 p2 b) b.length 0 (f,s1.2.1,s1.2.2)) λc=>
  aft (λd=>some (.inl d)) (λa=>
   some (.inr (.inr (a.1,a.2.1,a.2.2)))) c
 else
  some (.inr (.inl (s1.1,s1.2.1,s1.2.2)))
def gk (p0:solver) (p1:Int) (p2:VB) (a:VB):Option VB:=
 Dl (appS 1 ([]:VB) a) λd=>
 Dl (mkS 8 (p2.length:Int) (0:Int)) λe=>
 Dl (iI a) λf=>
 Dl (cd (fk p0 p1 p2) (2 ^ 64) (f,d,e)) λb=>
 aft some (λc=>
  some (c.2.1:VB)) b
def jA (p0:VB) (p1:VB) (a:Int) (s1:VB):Option (VB⊕(VB⊕VB)):=
 Dl (idx p0 a) λc=>
 Dl (bif c then
 Dl (idx p1 a) λd=>
 some (!d)
 else
 some false) λb=>
 Dl (idx s1 a) λf=>
 Dl (setI s1 a b) λe=>
 some (.inr (.inr (e:VB)))
def gl (p0:VB) (p1:VB):Option VB:=
 Dl (mkS 1 (p0.length:Int) (false:Bool)) λc=>
 Dl (cntM (jA p0 p1) p0.length 0 (c:VB)) λa=>
 aft some (λb=>
  some (b:VB)) a
def dc (p0:VB) (p1:Bool) (a:Int) (s1:Unit):Option (Int⊕(Unit⊕Unit)):=
 Dl (idx p0 a) λb=>
 bif (p1==b) then
  some (.inl (a:Int))
 else
  some (.inr (.inr ()))
def dX (p0:VB) (p1:Bool):Option Int:=
 Dl (cntM (dc p0 p1) p0.length 0 ()) λa=>
 aft some (λb=>
  some ((-1):Int)) a
def cT (p0:VB) (p1:Bool):Option Bool:=
 Dl (dX p0 p1) λa=>
 some (decide (0<=a):Bool)
def fZ (p0:solver) (d:Int) (s1:VB) (a:Int) (b:VB):Option ((VB×Int)⊕(VB⊕VB)):=
 Dl (idx s1 a) λe=>
 Dl (bif e then
 Dl (idx p0.game.Prio a) λf=>
 some (f==d)
 else
 some false) λc=>
 Dl (idx b a) λi=>
 Dl (setI b a c) λg=>
 some (.inr (.inr (g:VB)))
def fY (rc:solver->VB->Option (VB×Int)) (p0:solver) (p1:VB) (a:Int) (s1:VB):Option ((VB×Int)⊕(VB⊕VB)):=
 Dl (mkS 1 (p1.length:Int) (false:Bool)) λe=>
 Dl (cntM (fZ p0 a s1) e.length 0 (e:VB)) λg=>
 aft (λi=>some (.inl i)) (λj=>
  Dl (gk p0 (Dy a 2) s1 j) λk=>
  Dl (gl s1 k) λf=>
  Dl (rc p0 f) λb=>
  Dl (bif (b.2==(Dy a 2)) then
   Dl (gl f b.1) λl=>
   some (l:VB)
  else
   some (b.1:VB)) λd=>
  Dl (cT d true) λm=>
  bif (!m) then
   some (.inl (s1,((Dy a 2):Int)))
  else
   Dl (gk p0 (Dr .i64 (1-(Dy a 2))) s1 d) λn=>
   Dl (gl s1 n) λc=>
   Dl (cT c true) λo=>
   bif (!o) then
    some (.inl (c,((Dy a 2):Int)))
   else
    some (.inr (.inr (c:VB)))) g
def ej (rc:solver->VB->Option (VB×Int)) (p0:solver) (p1:VB):Option (VB×Int):=
 Dl (iI p1) λa=>
 bif ((a.length:Int)==0) then
  some (p1,(0:Int))
 else
  Dl (pT p0.game a) λc=>
  Dl (appS 1 ([]:VB) p1) λd=>
  Dl (cd (fY rc p0 p1 c) (2 ^ 64) (d:VB)) λb=>
  aft some (λe=>
   none) b
def dV:Nat->solver->VB->Option (VB×Int)
 |0=>λ_ _=>none
 |n+1=>ej (dV n)
def oH (p0:Parity) (p1:VI):Option (VI×VI):=
 Dl (mP p0.Arena) λc=>
 Dl (nX p0.Arena p1) λb=>
 Dl (dV (2 ^ 64) (⟨p0,c⟩:solver) b) λa=>
 bif (a.2==0) then
  Dl (iI a.1) λd=>
  Dl (gl b a.1) λe=>
  Dl (iI e) λf=>
  some (d,f)
 else
  Dl (gl b a.1) λg=>
  Dl (iI g) λi=>
  Dl (iI a.1) λj=>
  some (i,j)
def jz (c:VI×VI) (b:Int) (s1:VI):Option (VI⊕(VI⊕VI)):=
 Dl (idx c.2 b) λa=>
 Dl (idx s1 a) λe=>
 Dl (setI s1 a 1) λd=>
 some (.inr (.inr (d:VI)))
def fl (p0:Parity):Option VI:=
 Dl (mkS 8 (p0.Prio.length:Int) (0:Int)) λd=>
 Dl (pP p0.Arena) λe=>
 Dl (oH p0 e) λa=>
 Dl (cntM (jz a) a.2.length 0 (d:VI)) λb=>
 aft some (λc=>
  some (c:VI)) b
def jp (p0:Arena) (a:Int) (s1:Unit):Option (Bool⊕(Unit⊕Unit)):=
 Dl (idx p0.Next a) λb=>
 Dl (idx p0.Owner a) λg=>
 Dl (bif decide (g<0) then
 some true
 else
 Dl (idx p0.Owner a) λi=>
 some (decide (1<i))) λc=>
 Dl (bif c then
 some true
 else
 some (decide ((b.length:Int)<1))) λd=>
 Dl (bif d then
 some true
 else
 some (decide (16<(b.length:Int)))) λe=>
 Dl (bif e then
 some true
 else
 Dl (kP b (p0.Owner.length:Int)) λj=>
 some (!j)) λf=>
 bif f then
  some (.inl (false:Bool))
 else
  some (.inr (.inr ()))
def kZ (p0:Arena):Option Bool:=
 Dl (bif decide ((p0.Owner.length:Int)<1) then
 some true
 else
 some (decide (256<(p0.Owner.length:Int)))) λa=>
 Dl (bif a then
 some true
 else
 some ((p0.Next.length:Int) !=(p0.Owner.length:Int))) λb=>
 bif b then
  some (false:Bool)
 else
  Dl (cntM (jp p0) p0.Next.length 0 ()) λc=>
  aft some (λd=>
   some (true:Bool)) c
def iE (p0:Parity) (c:Int) (s1:Unit):Option (Bool⊕(Unit⊕Unit)):=
 Dl (idx p0.Prio c) λa=>
 Dl (bif decide (a<0) then
 some true
 else
 some (decide (40<a))) λb=>
 bif b then
  some (.inl (false:Bool))
 else
  some (.inr (.inr ()))
def lw (p0:Parity):Option Bool:=
 Dl (kZ p0.Arena) λc=>
 Dl (bif (!c) then
 some true
 else
 some ((p0.Prio.length:Int) !=(p0.Arena.Owner.length:Int))) λa=>
 bif a then
  some (false:Bool)
 else
  Dl (cntM (iE p0) p0.Prio.length 0 ()) λb=>
  aft some (λd=>
   some (true:Bool)) b
def mr  (a:Int) (s1:VI):Option (VI⊕(VI⊕VI)):=
 Dl (idx s1 a) λc=>
 Dl (setI s1 a (-1)) λb=>
 some (.inr (.inr (b:VI)))
def nZ (p0:Arena):Option VI:=
 Dl (mkS 8 (p0.Owner.length:Int) (0:Int)) λa=>
 Dl (cntM mr a.length 0 (a:VI)) λb=>
 aft some (λc=>
  some (c:VI)) b
def iF (p0:Answer) (p1:Int) (a:Int) (s1:VI):Option (VI⊕(VI⊕VI)):=
 Dl (idx p0.Won a) λc=>
 Dl (bif (c==p1) then
  Dl (appS 8 s1 ([a]:VI)) λd=>
  some (d:VI)
 else
  some (s1:VI)) λb=>
 some (.inr (.inr (b:VI)))
def lz (p0:Answer) (p1:Int):Option VI:=
 bif decide (256<(p0.Won.length:Int)) then
  some ([]:VI)
 else
  Dl (cntM (iF p0 p1) p0.Won.length 0 ([]:VI)) λa=>
  aft some (λb=>
   some (b:VI)) a
def gN (p0:VV) (a:Int) (s1:VV):Option (VV⊕(VV⊕VV)):=
 Dl (idx p0 a) λb=>
 Dl (appS 8 ([]:VI) b) λc=>
 Dl (appS 24 s1 ([c]:VV)) λd=>
 some (.inr (.inr (d:VV)))
def mn (p0:VV):Option VV:=
 Dl (cntM (gN p0) p0.length 0 ([]:VV)) λa=>
 aft some (λb=>
  some (b:VV)) a
def kl (p0:Arena):Option (Arena):=
 Dl (appS 8 ([]:VI) p0.Owner) λa=>
 Dl (mn p0.Next) λb=>
 some ((⟨a,b⟩:Arena):Arena)
def jr (p1:VI) (a:Int) (s1:VV):Option (Arena⊕(VV⊕VV)):=
 Dl (idx p1 a) λb=>
 Dl (bif decide (0<=b) then
  Dl (idx s1 a) λe=>
  Dl (setI s1 a (([b]:VI):VI)) λd=>
  some (d:VV)
 else
  some (s1:VV)) λc=>
 some (.inr (.inr (c:VV)))
def mM (p0:Arena) (p1:VI):Option (Arena):=
 Dl (kl p0) λa=>
 Dl (cntM (jr p1) p1.length 0 (a.Next:VV)) λb=>
 aft some (λc=>
  some ((⟨a.Owner,c⟩:Arena):Arena)) b
def n7 (p0:Parity) (p1:VI):Option (Parity):=
 Dl (mM p0.Arena p1) λa=>
 Dl (appS 8 ([]:VI) p0.Prio) λb=>
 some ((⟨(⟨a.Owner,a.Next⟩:Arena),b⟩:Parity):Parity)
def gj (p0:Parity) (p2:VI) (a:Int) (k:VI) (l:VI) (j:Int) (c:VI):Option (Answer⊕(VI⊕VI)):=
 Dl (idx l j) λd=>
 Dl (idx p2 d) λm=>
 Dl (idx p2 a) λn=>
 bif (m !=n) then
  some (.inr (.inr (c:VI)))
 else
  Dl (idx c a) λt=>
  Dl (setI c a d) λb=>
  Dl (n7 p0 b) λo=>
  Dl (oH o k) λe=>
  Dl (idx p2 a) λp=>
  Dl (bif (p==0) then
  some ((e.2.length:Int)==0)
  else
  some false) λg=>
  Dl (bif g then
  some true
  else
  Dl (idx p2 a) λq=>
  Dl (bif (q==1) then
  some ((e.1.length:Int)==0)
  else
  some false) λi=>
  some i) λf=>
  bif f then
   some (.inr (.inl (b:VI)))
  else
   Dl (idx b a) λs=>
   Dl (setI b a (-1)) λr=>
   some (.inr (.inr (r:VI)))
def iK (p0:Parity) (p2:VI) (a:Int) (s1:VI):Option (Answer⊕(VI⊕VI)):=
 Dl (idx p2 a) λi=>
 Dl (idx p0.Arena.Owner a) λg=>
 Dl (bif (g !=i) then
 some true
 else
 Dl (idx s1 a) λj=>
 some (decide (0<=j))) λc=>
 bif c then
  some (.inr (.inr (s1:VI)))
 else
  Dl (idx p2 a) λk=>
  Dl (lz (⟨p2,([]:VI)⟩:Answer) k) λl=>
  Dl (idx p0.Arena.Next a) λb=>
  Dl (cntM (gj p0 p2 a l b) b.length 0 (s1:VI)) λd=>
  aft (λe=>some (.inl e)) (λf=>
   some (.inr (.inr (f:VI)))) d
def lJ (p0:Parity) (p1:VI) (p2:VI):Option (Answer):=
 Dl (appS 8 ([]:VI) p1) λa=>
 Dl (cntM (iK p0 p2) a.length 0 (a:VI)) λb=>
 aft some (λc=>
  Dl (appS 8 ([]:VI) p2) λd=>
  some ((⟨d,c⟩:Answer):Answer)) b
def mL (p0:Parity):Option (Answer):=
 Dl (lw p0) λd=>
 bif (!d) then
  some ((⟨([]:VI),([]:VI)⟩:Answer):Answer)
 else
  Dl (nZ p0.Arena) λa=>
  Dl (fl p0) λb=>
  Dl (lJ p0 a b) λc=>
  some (c:Answer)
def iD (p0:Int) (c0:VL) (a:Int) (b:Int) (c3:Sig) (c:Int):Option Bool:=
 Dl (idx c0 p0) λd=>
 Dl (dQ c3) λe=>
 some ((d.At==(Dr .i64 ((Dr .i64 (a+(Dr .i64 (b * e))))+c))):Bool)
def cD (p0:VI) (c1_0:VL) (b:Int) (c:Int) (c1_3:Sig) (d:Int) (a:Int) (s1:Unit):Option (Int⊕(Unit⊕Unit)):=
 Dl (idx p0 a) λe=>
 Dl (iD e c1_0 b c c1_3 d) λf=>
 bif f then
  some (.inl (a:Int))
 else
  some (.inr (.inr ()))
def cw (p0:VI) (c1_0:VL) (a:Int) (b:Int) (c1_3:Sig) (c:Int):Option Int:=
 Dl (cntM (cD p0 c1_0 a b c1_3 c) p0.length 0 ()) λd=>
 aft some (λe=>
  some ((-1):Int)) d
def iH (p0:VP) (p1:Int) (c:Int) (s1:Unit):Option (Bool⊕(Unit⊕Unit)):=
 Dl (idx p0 c) λa=>
 Dl (kP a.Ask p1) λd=>
 Dl (bif (!d) then
 some true
 else
 Dl (kP a.Give p1) λe=>
 some (!e)) λb=>
 bif b then
  some (.inl (false:Bool))
 else
  some (.inr (.inr ()))
def jU (p0:VP) (p1:Int):Option Bool:=
 Dl (cntM (iH p0 p1) p0.length 0 ()) λa=>
 aft some (λb=>
  some (decide ((p0.length:Int)<=4):Bool)) a
def fa (p0:Int) (c0:Int):Option Bool:=
 Dl (bif decide (p0<0) then
 some true
 else
 some (decide (c0<=p0))) λa=>
 some (a:Bool)
def cC (p0:VI) (c1_0:Int) (a:Int) (s1:Unit):Option (Int⊕(Unit⊕Unit)):=
 Dl (idx p0 a) λb=>
 Dl (fa b c1_0) λc=>
 bif c then
  some (.inl (a:Int))
 else
  some (.inr (.inr ()))
def cE (p0:VI) (c1_0:Int):Option Int:=
 Dl (cntM (cC p0 c1_0) p0.length 0 ()) λa=>
 aft some (λb=>
  some ((-1):Int)) a
def cB (p0:VI) (c1_0:Int):Option Bool:=
 Dl (cE p0 c1_0) λa=>
 some (decide (0<=a):Bool)
def fN (p0:VI) (p1:Int):Option Bool:=
 Dl (cB p0 p1) λa=>
 some ((!a):Bool)
def lB (p0:Sig) (p1:Det) (c:Int) (s1:Unit):Option (Bool⊕(Unit⊕Unit)):=
 Dl (idx p1.Next c) λa=>
 Dl (dI p0) λd=>
 Dl (bif ((a.length:Int) !=d) then
 some true
 else
 Dl (fN a (p1.Next.length:Int)) λe=>
 some (!e)) λb=>
 bif b then
  some (.inl (false:Bool))
 else
  some (.inr (.inr ()))
def oF (p0:Sig) (p1:Det):Option Bool:=
 Dl (bif decide ((p1.Next.length:Int)<1) then
 some true
 else
 some (decide (48<(p1.Next.length:Int)))) λa=>
 Dl (bif a then
 some true
 else
 Dl (jU p1.Pairs (p1.Next.length:Int)) λd=>
 some (!d)) λb=>
 bif b then
  some (false:Bool)
 else
  Dl (cntM (lB p0 p1) p1.Next.length 0 ()) λc=>
  aft some (λe=>
   some (true:Bool)) c
def gM (p0:Sig) (p1:Det) (p2:Int) (b:Int) (c:Int) (a:Int) (s1:VI):Option (VI⊕(VI⊕VI)):=
 Dl (idx p1.Next p2) λe=>
 Dl (dQ p0) λf=>
 Dl (idx e (Dr .i64 ((Dr .i64 (a * f))+b))) λg=>
 Dl (bif (g==c) then
  Dl (appS 8 s1 ([a]:VI)) λi=>
  some (i:VI)
 else
  some (s1:VI)) λd=>
 some (.inr (.inr (d:VI)))
def kj (p0:Sig) (p1:Det) (p2:Int) (a:Int) (f:Int):Option VI:=
 Dl (kQ p0) λk=>
 Dl (bif (!k) then
 some true
 else
 Dl (oF p0 p1) λl=>
 some (!l)) λb=>
 Dl (bif b then
 some true
 else
 some (decide (p2<0))) λc=>
 Dl (bif c then
 some true
 else
 some (decide ((p1.Next.length:Int)<=p2))) λd=>
 Dl (bif d then
 some true
 else
 some (decide (a<0))) λe=>
 Dl (bif e then
 some true
 else
 Dl (dQ p0) λm=>
 some (decide (m<=a))) λg=>
 bif g then
  some ([]:VI)
 else
  Dl (nn p0.Out) λ_z46=>
  Dl (rng (Dr .i64 (1 * 2 ^ (min (Dq p0.Out) (Dz DA))))) λ_=>
  Dl (cntM (gM p0 p1 p2 a f) (Dq ((Dr .i64 (1 * 2 ^ (min (Dq p0.Out) (Dz DA))))-0)) 0 ([]:VI)) λi=>
  aft some (λj=>
   some (j:VI)) i
def eU (p0:Sig) (f:Det×Bool) (x42:Parity×VL×Bool) (r:Answer) (s1:VI×Int×VV×VV) (g:Place) (d:Int) (a:VI×VI×VI):Option ((Machine×Bool)⊕((VI×VI×VI)⊕(VI×VI×VI))):=
 Dl (idx a.1 s1.2.1) λs=>
 Dl (idx x42.1.Arena.Next s) λt=>
 Dl (cw t x42.2.1 (f.1.Next.length:Int) g.At p0 d) λu=>
 Dl (idx a.1 s1.2.1) λi=>
 Dl (idx x42.1.Arena.Next i) λj=>
 Dl (idx j u) λk=>
 Dl (idx r.Plan k) λb=>
 Dl (cR a.1 b) λe=>
 Dl (bif decide (e<0) then
  Dl (appS 8 a.1 ([b]:VI)) λl=>
  some (l,((a.1.length:Int):Int))
 else
  some (a.1,e)) λc=>
 Dl (appS 8 a.2.1 ([c.2]:VI)) λm=>
 Dl (idx x42.2.1 b) λn=>
 Dl (kj p0 f.1 g.At d n.At) λo=>
 Dl (idx o 0) λp=>
 Dl (appS 8 a.2.2 ([p]:VI)) λq=>
 some (.inr (.inr (c.1,m,q)))
def gL (p0:Sig) (g:Det×Bool) (x42:Parity×VL×Bool) (i:Answer) (s1:VI×Int×VV×VV):Option ((Machine×Bool)⊕((VI×Int×VV×VV)⊕(VI×Int×VV×VV))):=
 bif decide (s1.2.1<(s1.1.length:Int)) then
  Dl (idx s1.1 s1.2.1) λj=>
  Dl (idx x42.2.1 j) λk=>
  Dl (dQ p0) λb=>
  Dl (rng b) λ_=>
  Dl (cntM (eU p0 g x42 i s1 k) (Dq (b-0)) 0 (s1.1,([]:VI),([]:VI))) λc=>
  aft (λd=>some (.inl d)) (λa=>
   Dl (appS 24 s1.2.2.1 ([a.2.1]:VV)) λe=>
   Dl (appS 24 s1.2.2.2 ([a.2.2]:VV)) λf=>
   some (.inr (.inr (a.1,((Dr .i64 (s1.2.1+1)):Int),e,f)))) c
 else
  some (.inr (.inl (s1.1,s1.2.1,s1.2.2.1,s1.2.2.2)))
def jf (p0:Sig) (p1:VC):Option (Machine×Bool):=
 Dl (dh p0 p1) λc=>
 bif (!c.2) then
  some (((⟨([]:VV),([]:VV)⟩:Machine):Machine),false)
 else
  Dl (fK p0 c.1) λd=>
  Dl (eh d.1 d.2 0) λa=>
  Dl (bif (!a.2.2) then
  some true
  else
  Dl (fl a.1) λg=>
  Dl (idx g 0) λi=>
  some (i !=0)) λe=>
  bif e then
   some (((⟨([]:VV),([]:VV)⟩:Machine):Machine),false)
  else
   Dl (mL a.1) λj=>
   Dl (cd (gL p0 c a j) (2 ^ 64) ((([0]:VI):VI),(0:Int),([]:VV),([]:VV))) λf=>
   aft some (λb=>
    bif decide (48<(b.1.length:Int)) then
     some (((⟨([]:VV),([]:VV)⟩:Machine):Machine),false)
    else
     some (((⟨b.2.2.1,b.2.2.2⟩:Machine):Machine),true)) f
def fS (p0:Int) (p1:Int) (p2:Int):Option Bool:=
 Dl (bif decide (p1<=p0) then
 some (decide (p0<=p2))
 else
 some false) λa=>
 some (a:Bool)
def kg (p0:Sig):Option Bool:=
 Dl (fS p0.In 1 2) λb=>
 Dl (bif b then
 Dl (fS p0.Out 1 2) λc=>
 some c
 else
 some false) λa=>
 some (a:Bool)
def gw  (s1:Int×Int):Option (Int⊕((Int×Int)⊕(Int×Int))):=
 bif decide (0<s1.1) then
  some (.inr (.inr (((Dr .i64 (s1.1-1)):Int),((Dr .i64 (s1.2 * 2)):Int))))
 else
  some (.inr (.inl (s1.1,s1.2)))
def dR (p0:Int):Option Int:=
 Dl (cd gw (2 ^ 64) (p0,(1:Int))) λa=>
 aft some (λb=>
  some (b.2:Int)) a
def dJ (p0:Sig):Option Int:=
 Dl (kg p0) λb=>
 bif (!b) then
  some (0:Int)
 else
  Dl (dR (Dr .i64 (p0.In+p0.Out))) λa=>
  some (a:Int)
def jL (p0:VI) (p1:Int) (a:Int) (s1:Unit):Option (Bool⊕(Unit⊕Unit)):=
 Dl (idx p0 a) λd=>
 Dl (fS d 0 (Dr .i64 (p1-1))) λe=>
 Dl (bif (!e) then
 some true
 else
 Dl (bif decide (0<a) then
 Dl (idx p0 a) λf=>
 Dl (idx p0 (Dr .i64 (a-1))) λg=>
 some (decide (f<=g))
 else
 some false) λb=>
 some b) λc=>
 bif c then
  some (.inl (false:Bool))
 else
  some (.inr (.inr ()))
def mX (p0:VI) (p1:Int):Option Bool:=
 Dl (cntM (jL p0 p1) p0.length 0 ()) λa=>
 aft some (λb=>
  some (true:Bool)) a
def mv (p0:VI) (p1:Int):Option Bool:=
 Dl (bif decide ((p0.length:Int)<=p1) then
 Dl (mX p0 p1) λb=>
 some b
 else
 some false) λa=>
 some (a:Bool)
def oU (p0:Int):Option Bool:=
 Dl (bif (p0==2) then
 some true
 else
 some (p0==3)) λb=>
 Dl (bif b then
 some true
 else
 some (p0==7)) λa=>
 some (a:Bool)
def jX (p0:Sig) (p1:Clause):Option Bool:=
 Dl (kg p0) λk=>
 Dl (bif (!k) then
 some true
 else
 Dl (fS p1.Kind 1 7) λf=>
 some (!f)) λb=>
 bif b then
  some (false:Bool)
 else
  Dl (dJ p0) λa=>
  Dl (mv p1.A a) λg=>
  Dl (bif g then
  Dl (mv p1.B a) λi=>
  some i
  else
  some false) λc=>
  Dl (bif c then
  Dl (oU p1.Kind) λj=>
  Dl (bif j then
  some true
  else
  some ((p1.B.length:Int)==0)) λd=>
  some d
  else
  some false) λe=>
  some (e:Bool)
def gX (p0:Sig) (p1:VC) (a:Int) (s1:Unit):Option (Bool⊕(Unit⊕Unit)):=
 Dl (idx p1 a) λb=>
 Dl (jX p0 b) λc=>
 bif (!c) then
  some (.inl (false:Bool))
 else
  some (.inr (.inr ()))
def gW (p0:Sig) (p1:VC):Option Bool:=
 Dl (kg p0) λc=>
 Dl (bif (!c) then
 some true
 else
 some (decide (3<(p1.length:Int)))) λa=>
 bif a then
  some (false:Bool)
 else
  Dl (cntM (gX p0 p1) p1.length 0 ()) λb=>
  aft some (λd=>
   some (true:Bool)) b
def mZ (p0:Int):Option (Pair):=
 Dl (bif (p0==1) then
  some (true:Bool)
 else
  some ((p0==5):Bool)) λa=>
 bif a then
  some ((⟨([1]:VI),([]:VI)⟩:Pair):Pair)
 else
  bif (p0==2) then
   some ((⟨([2]:VI),([]:VI)⟩:Pair):Pair)
  else
   bif (p0==3) then
    some ((⟨([1]:VI),([0]:VI)⟩:Pair):Pair)
   else
    bif (p0==4) then
     some ((⟨([0,1]:VI),([1]:VI)⟩:Pair):Pair)
    else
     bif (p0==6) then
      some ((⟨([0]:VI),([]:VI)⟩:Pair):Pair)
     else
      some ((⟨([2,3]:VI),([1,3]:VI)⟩:Pair):Pair)
def kD (p0:Int):Option Int:=
 bif (p0==2) then
  some (3:Int)
 else
  bif (p0==7) then
   some (4:Int)
  else
   some (2:Int)
def i8 (p0:VI) (p1:Int) (a:Int) (s1:Unit):Option (Bool⊕(Unit⊕Unit)):=
 Dl (idx p0 a) λb=>
 bif (b==p1) then
  some (.inl (true:Bool))
 else
  some (.inr (.inr ()))
def gH (p0:VI) (p1:Int):Option Bool:=
 Dl (cntM (i8 p0 p1) p0.length 0 ()) λa=>
 aft some (λb=>
  some (false:Bool)) a
def ig (p0:Bool):Option Int:=
 bif p0 then
  some (1:Int)
 else
  some (0:Int)
def kW (p0:Int) (p1:Int):Option Int:=
 bif decide (p1<p0) then
  some (p0:Int)
 else
  some (p1:Int)
def mY (p0:Clause) (p1:Int) (p2:Int):Option Int:=
 Dl (gH p0.A p2) λe=>
 Dl (ig e) λa=>
 Dl (gH p0.B p2) λf=>
 Dl (ig f) λb=>
 bif (p0.Kind==1) then
  Dl (kW p1 (Dr .i64 (1-a))) λg=>
  some (g:Int)
 else
  bif (p0.Kind==2) then
   Dl (bif (p1==2) then
   some true
   else
   Dl (bif (p1==1) then
   some (b==0)
   else
   some false) λc=>
   some c) λd=>
   bif d then
    some (2:Int)
   else
    some (a:Int)
  else
   bif (p0.Kind==3) then
    bif (b==1) then
     some (0:Int)
    else
     Dl (kW p1 a) λi=>
     some (i:Int)
   else
    bif (p0.Kind==4) then
     some (a:Int)
    else
     bif (p0.Kind==5) then
      some ((Dr .i64 (1-a)):Int)
     else
      bif (p0.Kind==6) then
       Dl (kW p1 a) λj=>
       some (j:Int)
      else
       some ((Dr .i64 ((Dr .i64 (2 * a))+b)):Int)
def hU (p0:Sig) (p1:Clause) (s1:Int×VV) (a:VI×Int):Option (Det⊕((VI×Int)⊕(VI×Int))):=
 Dl (dJ p0) λb=>
 bif decide (a.2<b) then
  Dl (mY p1 s1.1 a.2) λc=>
  Dl (appS 8 a.1 ([c]:VI)) λd=>
  some (.inr (.inr (d,((Dr .i64 (a.2+1)):Int))))
 else
  some (.inr (.inl (a.1,a.2)))
def g9 (p0:Sig) (p1:Clause) (s1:Int×VV):Option (Det⊕((Int×VV)⊕(Int×VV))):=
 Dl (kD p1.Kind) λd=>
 bif decide (s1.1<d) then
  Dl (cd (hU p0 p1 s1) (2 ^ 64) (([]:VI),(0:Int))) λa=>
  aft (λb=>some (.inl b)) (λc=>
   Dl (appS 24 s1.2 ([c.1]:VV)) λe=>
   some (.inr (.inr (((Dr .i64 (s1.1+1)):Int),e)))) a
 else
  some (.inr (.inl (s1.1,s1.2)))
def kz (p0:Sig) (p1:Clause):Option (Det):=
 Dl (jX p0 p1) λc=>
 bif (!c) then
  some ((⟨([]:VV),([]:VP)⟩:Det):Det)
 else
  Dl (mZ p1.Kind) λd=>
  Dl (cd (g9 p0 p1) (2 ^ 64) ((0:Int),([]:VV))) λa=>
  aft some (λb=>
   some ((⟨b.2,([d]:VP)⟩:Det):Det)) a
def iN (p0:VI) (p1:Int) (a:Int) (s1:Unit):Option (Bool⊕(Unit⊕Unit)):=
 Dl (idx p0 a) λb=>
 Dl (fS b 0 (Dr .i64 (p1-1))) λc=>
 bif (!c) then
  some (.inl (false:Bool))
 else
  some (.inr (.inr ()))
def ja (p0:VI) (p1:Int):Option Bool:=
 Dl (cntM (iN p0 p1) p0.length 0 ()) λa=>
 aft some (λb=>
  some (true:Bool)) a
def kV (p0:VI) (p1:Int):Option Bool:=
 Dl (fS p1 0 256) λc=>
 Dl (bif c then
 Dl (mv p0 p1) λb=>
 some b
 else
 some false) λa=>
 some (a:Bool)
def jJ (p0:VP) (p1:Int) (a:Int) (s1:Unit):Option (Bool⊕(Unit⊕Unit)):=
 Dl (idx p0 a) λc=>
 Dl (kV c.Ask p1) λd=>
 Dl (bif (!d) then
 some true
 else
 Dl (idx p0 a) λe=>
 Dl (kV e.Give p1) λf=>
 some (!f)) λb=>
 bif b then
  some (.inl (false:Bool))
 else
  some (.inr (.inr ()))
def lh (p0:VP) (p1:Int):Option Bool:=
 Dl (fS p1 0 256) λc=>
 Dl (bif (!c) then
 some true
 else
 some (decide (4<(p0.length:Int)))) λa=>
 bif a then
  some (false:Bool)
 else
  Dl (cntM (jJ p0 p1) p0.length 0 ()) λb=>
  aft some (λd=>
   some (true:Bool)) b
def lP (p0:Sig) (p1:Det) (a:Int) (s1:Unit):Option (Bool⊕(Unit⊕Unit)):=
 Dl (idx p1.Next a) λc=>
 Dl (dJ p0) λd=>
 Dl (bif ((c.length:Int) !=d) then
 some true
 else
 Dl (idx p1.Next a) λe=>
 Dl (ja e (p1.Next.length:Int)) λf=>
 some (!f)) λb=>
 bif b then
  some (.inl (false:Bool))
 else
  some (.inr (.inr ()))
def kU (p0:Sig) (p1:Det):Option Bool:=
 Dl (kg p0) λc=>
 Dl (bif (!c) then
 some true
 else
 Dl (fS (p1.Next.length:Int) 1 48) λd=>
 some (!d)) λa=>
 bif a then
  some (false:Bool)
 else
  Dl (cntM (lP p0 p1) p1.Next.length 0 ()) λb=>
  aft some (λf=>
   Dl (lh p1.Pairs (p1.Next.length:Int)) λe=>
   some (e:Bool)) b
def iQ (p0:VV) (p1:Int) (p2:Int) (a:Int) (s1:Unit):Option (Int⊕(Unit⊕Unit)):=
 Dl (idx p0 a) λc=>
 Dl (idx c 0) λd=>
 Dl (bif (d==p1) then
 Dl (idx p0 a) λe=>
 Dl (idx e 1) λf=>
 some (f==p2)
 else
 some false) λb=>
 bif b then
  some (.inl (a:Int))
 else
  some (.inr (.inr ()))
def l9 (p0:VV) (p1:Int) (p2:Int):Option Int:=
 Dl (cntM (iQ p0 p1 p2) p0.length 0 ()) λa=>
 aft some (λb=>
  some ((-1):Int)) a
def iP (p0:VP) (p1:VV) (p2:Int) (c:Int) (b:Int) (a:VI×VI):Option (VP⊕((VI×VI)⊕(VI×VI))):=
 Dl (idx p0 c) λf=>
 Dl (idx p1 b) λg=>
 Dl (idx g p2) λi=>
 Dl (gH f.Ask i) λj=>
 Dl (bif j then
  Dl (appS 8 a.1 ([b]:VI)) λk=>
  some (k:VI)
 else
  some (a.1:VI)) λd=>
 Dl (idx p0 c) λl=>
 Dl (idx p1 b) λm=>
 Dl (idx m p2) λn=>
 Dl (gH l.Give n) λo=>
 Dl (bif o then
  Dl (appS 8 a.2 ([b]:VI)) λp=>
  some (p:VI)
 else
  some (a.2:VI)) λe=>
 some (.inr (.inr (d,e)))
def iO (p0:VP) (p1:VV) (p2:Int) (d:Int) (s1:VP):Option (VP⊕(VP⊕VP)):=
 Dl (cntM (iP p0 p1 p2 d) p1.length 0 (([]:VI),([]:VI))) λb=>
 aft (λc=>some (.inl c)) (λa=>
  Dl (appS 48 s1 ([(⟨a.1,a.2⟩:Pair)]:VP)) λe=>
  some (.inr (.inr (e:VP)))) b
def j5 (p0:VP) (p1:VV) (p2:Int):Option VP:=
 Dl (cntM (iO p0 p1 p2) p0.length 0 ([]:VP)) λa=>
 aft some (λb=>
  some (b:VP)) a
def fB (p0:Det) (p1:Det) (s1:VV×Int×VV) (c:Int) (a:VV×VI):Option ((Det×Bool)⊕((VV×VI)⊕(VV×VI))):=
 Dl (idx a.1 s1.2.1) λg=>
 Dl (idx g 0) λi=>
 Dl (idx p0.Next i) λj=>
 Dl (idx j c) λd=>
 Dl (idx a.1 s1.2.1) λk=>
 Dl (idx k 1) λl=>
 Dl (idx p1.Next l) λm=>
 Dl (idx m c) λe=>
 Dl (l9 a.1 d e) λf=>
 Dl (bif decide (f<0) then
  Dl (appS 24 a.1 ([([d,e]:VI)]:VV)) λn=>
  some (n,((a.1.length:Int):Int))
 else
  some (a.1,f)) λb=>
 Dl (appS 8 a.2 ([b.2]:VI)) λo=>
 some (.inr (.inr (b.1,o)))
def ik (p0:Det) (p1:Det) (p2:Int) (s1:VV×Int×VV):Option ((Det×Bool)⊕((VV×Int×VV)⊕(VV×Int×VV))):=
 bif decide (s1.2.1<(s1.1.length:Int)) then
  Dl (rng p2) λ_=>
  Dl (cntM (fB p0 p1 s1) (Dq (p2-0)) 0 (s1.1,([]:VI))) λb=>
  aft (λc=>some (.inl c)) (λa=>
   bif decide (48<(a.1.length:Int)) then
    some (.inl (((⟨([]:VV),([]:VP)⟩:Det):Det),false))
   else
    Dl (appS 24 s1.2.2 ([a.2]:VV)) λd=>
    some (.inr (.inr (a.1,((Dr .i64 (s1.2.1+1)):Int),d)))) b
 else
  some (.inr (.inl (s1.1,s1.2.1,s1.2.2)))
def fL (p0:Det) (p1:Det) (p2:Int):Option (Det×Bool):=
 Dl (cd (ik p0 p1 p2) (2 ^ 64) ((([([0,0]:VI)]:VV):VV),(0:Int),([]:VV))) λb=>
 aft some (λa=>
  Dl (j5 p0.Pairs a.1 0) λc=>
  Dl (j5 p1.Pairs a.1 1) λd=>
  Dl (appS 48 c d) λe=>
  some (((⟨a.2.2,e⟩:Det):Det),true)) b
def kw (p0:Sig) (p1:Det) (p2:Det):Option (Det×Bool):=
 Dl (kU p0 p1) λd=>
 Dl (bif (!d) then
 some true
 else
 Dl (kU p0 p2) λe=>
 some (!e)) λb=>
 Dl (bif b then
 some true
 else
 some (decide (4<(Dr .i64 ((p1.Pairs.length:Int)+(p2.Pairs.length:Int)))))) λc=>
 bif c then
  some (((⟨([]:VV),([]:VP)⟩:Det):Det),false)
 else
  Dl (dJ p0) λf=>
  Dl (fL p1 p2 f) λa=>
  some (a.1,a.2)
def fw (p0:Sig) (p1:VC) (b:Int) (s1:VV×VP):Option ((Det×Bool)⊕((VV×VP)⊕(VV×VP))):=
 Dl (idx p1 b) λc=>
 Dl (kz p0 c) λd=>
 Dl (kw p0 (⟨s1.1,s1.2⟩:Det) d) λa=>
 bif (!a.2) then
  some (.inl (((⟨([]:VV),([]:VP)⟩:Det):Det),false))
 else
  some (.inr (.inr (a.1.Next,a.1.Pairs)))
def cO (p0:Sig) (p1:VC):Option (Det×Bool):=
 Dl (gW p0 p1) λc=>
 bif (!c) then
  some (((⟨([]:VV),([]:VP)⟩:Det):Det),false)
 else
  Dl (dJ p0) λd=>
  Dl (mkS 8 d (0:Int)) λe=>
  Dl (cntM (fw p0 p1) p1.length 0 ((([e]:VV):VV),([]:VP))) λb=>
  aft some (λa=>
   some (((⟨a.1,a.2⟩:Det):Det),true)) b
def kE (p0:Sig):Option Int:=
 Dl (dR p0.In) λa=>
 some (a:Int)
def lU (p0:Sig) (p1:Int) (p2:Int):Option Int:=
 Dl (kg p0) λi=>
 Dl (bif (!i) then
 some true
 else
 Dl (dR p0.In) λc=>
 Dl (fS p1 0 (Dr .i64 (c-1))) λd=>
 some (!d)) λa=>
 Dl (bif a then
 some true
 else
 Dl (dR p0.Out) λe=>
 Dl (fS p2 0 (Dr .i64 (e-1))) λf=>
 some (!f)) λb=>
 bif b then
  some ((-1):Int)
 else
  Dl (dR p0.In) λg=>
  some ((Dr .i64 ((Dr .i64 (p2 * g))+p1)):Int)
def eI (p0:VI):Option VI:=
 Dl (appS 8 ([]:VI) p0) λa=>
 some (a:VI)
def ij (p0:VI) (p1:Int) (s1:Int):Option (VI⊕(Int⊕Int)):=
 Dl (bif decide (s1<(p0.length:Int)) then
 Dl (idx p0 s1) λb=>
 some (decide (b<p1))
 else
 some false) λa=>
 bif a then
  some (.inr (.inr ((Dr .i64 (s1+1)):Int)))
 else
  some (.inr (.inl (s1:Int)))
def kC (p0:VI) (p1:Int):Option VI:=
 Dl (cd (ij p0 p1) (2 ^ 64) (0:Int)) λc=>
 aft some (λa=>
  Dl (bif decide (a<(p0.length:Int)) then
  Dl (idx p0 a) λd=>
  some (d==p1)
  else
  some false) λb=>
  bif b then
   some (p0:VI)
  else
   Dl (subS p0 0 a) λe=>
   Dl (eI e) λf=>
   Dl (appS 8 f ([p1]:VI)) λg=>
   Dl (subS p0 a (p0.length:Int)) λi=>
   Dl (appS 8 g i) λj=>
   some (j:VI)) c
def iT (p0:Sig) (p1:Det) (p2:Int) (a:Int) (s1:VI×Int):Option (VI⊕((VI×Int)⊕(VI×Int))):=
 Dl (dR p0.Out) λb=>
 bif decide (s1.2<b) then
  Dl (idx p1.Next p2) λc=>
  Dl (lU p0 a s1.2) λd=>
  Dl (idx c d) λe=>
  Dl (kC s1.1 e) λf=>
  some (.inr (.inr (f,((Dr .i64 (s1.2+1)):Int))))
 else
  some (.inr (.inl (s1.1,s1.2)))
def ma (p0:Sig) (p1:Det) (p2:Int) (a:Int):Option VI:=
 Dl (cd (iT p0 p1 p2 a) (2 ^ 64) (([]:VI),(0:Int))) λb=>
 aft some (λc=>
  some (c.1:VI)) b
def fp (p1:Det) (d:Int) (b:Int) (c:Int) (a:VI):Option ((Arena×VP×Bool)⊕(VI⊕VI)):=
 Dl (appS 8 a ([(Dr .i64 ((Dr .i64 ((p1.Next.length:Int)+(Dr .i64 (b * d))))+c))]:VI)) λe=>
 some (.inr (.inr (e:VI)))
def fo (p1:Det) (a:Int) (e:Int) (s1:VI×VV):Option ((Arena×VP×Bool)⊕((VI×VV)⊕(VI×VV))):=
 Dl (rng a) λ_=>
 Dl (cntM (fp p1 a e) (Dq (a-0)) 0 ([]:VI)) λb=>
 aft (λc=>some (.inl c)) (λd=>
  Dl (appS 8 s1.1 ([1]:VI)) λf=>
  Dl (appS 24 s1.2 ([d]:VV)) λg=>
  some (.inr (.inr (f,g)))) b
def ft (p0:Sig) (p1:Det) (b:Int) (c:Int) (a:VI×VV):Option ((Arena×VP×Bool)⊕((VI×VV)⊕(VI×VV))):=
 Dl (appS 8 a.1 ([0]:VI)) λd=>
 Dl (ma p0 p1 b c) λe=>
 Dl (appS 24 a.2 ([e]:VV)) λf=>
 some (.inr (.inr (d,f)))
def fq (p0:Sig) (p1:Det) (c:Int) (f:Int) (b:VI×VV):Option ((Arena×VP×Bool)⊕((VI×VV)⊕(VI×VV))):=
 Dl (rng c) λ_=>
 Dl (cntM (ft p0 p1 f) (Dq (c-0)) 0 (b.1,b.2)) λd=>
 aft (λe=>some (.inl e)) (λa=>
  some (.inr (.inr (a.1,a.2)))) d
def fu (p1:Det) (a:Int) (b:VP):Option ((Arena×VP×Bool)⊕(VP⊕VP)):=
 Dl (idx p1.Pairs a) λg=>
 Dl (idx p1.Pairs a) λd=>
 Dl (eI g.Ask) λc=>
 Dl (eI d.Give) λe=>
 Dl (appS 48 b ([(⟨c,e⟩:Pair)]:VP)) λf=>
 some (.inr (.inr (f:VP)))
def gY (p0:Sig) (p1:Det):Option (Arena×VP×Bool):=
 Dl (kU p0 p1) λi=>
 bif (!i) then
  some (((⟨([]:VI),([]:VV)⟩:Arena):Arena),([]:VP),false)
 else
  Dl (kE p0) λc=>
  Dl (cntM (fo p1 c) p1.Next.length 0 (([]:VI),([]:VV))) λe=>
  aft some (λa=>
   Dl (cntM (fq p0 p1 c) p1.Next.length 0 (a.1,a.2)) λf=>
   aft some (λb=>
    Dl (cntM (fu p1) p1.Pairs.length 0 ([]:VP)) λd=>
    aft some (λg=>
     some (((⟨b.1,b.2⟩:Arena):Arena),g,true)) d) f) e
def jH (p0:Arena) (a:Int) (s1:Unit):Option (Bool⊕(Unit⊕Unit)):=
 Dl (idx p0.Owner a) λe=>
 Dl (fS e 0 1) λf=>
 Dl (bif (!f) then
 some true
 else
 Dl (idx p0.Next a) λg=>
 some (decide ((g.length:Int)<1))) λb=>
 Dl (bif b then
 some true
 else
 Dl (idx p0.Next a) λi=>
 some (decide (16<(i.length:Int)))) λc=>
 Dl (bif c then
 some true
 else
 Dl (idx p0.Next a) λj=>
 Dl (mv j (p0.Owner.length:Int)) λk=>
 some (!k)) λd=>
 bif d then
  some (.inl (false:Bool))
 else
  some (.inr (.inr ()))
def lg (p0:Arena):Option Bool:=
 Dl (fS (p0.Owner.length:Int) 1 256) λc=>
 Dl (bif (!c) then
 some true
 else
 some ((p0.Next.length:Int) !=(p0.Owner.length:Int))) λa=>
 bif a then
  some (false:Bool)
 else
  Dl (cntM (jH p0) p0.Owner.length 0 ()) λb=>
  aft some (λd=>
   some (true:Bool)) b
def kA (p0:VI) (p1:Int) (a:Int) (s1:Unit):Option (Bool⊕(Unit⊕Unit)):=
 Dl (idx p0 a) λb=>
 bif (b==p1) then
  some (.inl (true:Bool))
 else
  some (.inr (.inr ()))
def lY (p0:VI) (p1:Int):Option Bool:=
 Dl (cntM (kA p0 p1) p0.length 0 ()) λa=>
 aft some (λb=>
  some (false:Bool)) a
def fQ (p0:VP) (p1:VI) (p2:Int) (a:Int) (s1:VI×VI):Option (VI⊕((VI×VI)⊕(VI×VI))):=
 Dl (idx p1 a) λc=>
 Dl (idx p0 c) λd=>
 Dl (lY d.Give p2) λe=>
 Dl (bif e then
  Dl (idx p1 a) λf=>
  Dl (appS 8 s1.1 ([f]:VI)) λg=>
  some (g,s1.2)
 else
  Dl (idx p1 a) λi=>
  Dl (appS 8 s1.2 ([i]:VI)) λj=>
  some (s1.1,j)) λb=>
 some (.inr (.inr (b.1,b.2)))
def jZ (p0:VP) (p1:VI) (p2:Int):Option VI:=
 Dl (cntM (fQ p0 p1 p2) p1.length 0 (([]:VI),([]:VI))) λb=>
 aft some (λa=>
  Dl (appS 8 a.1 a.2) λc=>
  some (c:VI)) b
def fx (p0:VI) (p1:VI) (a:Int) (s1:Unit):Option (Bool⊕(Unit⊕Unit)):=
 Dl (idx p0 a) λb=>
 Dl (idx p1 a) λc=>
 bif (b !=c) then
  some (.inl (false:Bool))
 else
  some (.inr (.inr ()))
def iM (p0:VI) (p1:VI):Option Bool:=
 bif ((p0.length:Int) !=(p1.length:Int)) then
  some (false:Bool)
 else
  Dl (cntM (fx p0 p1) p0.length 0 ()) λa=>
  aft some (λb=>
   some (true:Bool)) a
def jK (p0:VL) (p1:Int) (p2:VI) (a:Int) (s1:Unit):Option (Int⊕(Unit⊕Unit)):=
 Dl (idx p0 a) λc=>
 Dl (bif (c.At==p1) then
 Dl (idx p0 a) λd=>
 Dl (iM d.Record p2) λe=>
 some e
 else
 some false) λb=>
 bif b then
  some (.inl (a:Int))
 else
  some (.inr (.inr ()))
def mW (p0:VL) (p1:Int) (p2:VI):Option Int:=
 Dl (cntM (jK p0 p1 p2) p0.length 0 ()) λa=>
 aft some (λb=>
  some ((-1):Int)) a
def ie (p0:VI) (c:Int) (s1:VI) (a:Int):Option (VI⊕(Int⊕Int)):=
 Dl (bif decide (0<a) then
 Dl (idx s1 (Dr .i64 (a-1))) λd=>
 Dl (idx p0 c) λe=>
 some (decide (e<d))
 else
 some false) λb=>
 bif b then
  some (.inr (.inr ((Dr .i64 (a-1)):Int)))
 else
  some (.inr (.inl (a:Int)))
def ic (p0:VI) (b:Int) (s1:VI):Option (VI⊕(VI⊕VI)):=
 Dl (cd (ie p0 b s1) (2 ^ 64) ((s1.length:Int):Int)) λc=>
 aft (λd=>some (.inl d)) (λa=>
  Dl (subS s1 0 a) λe=>
  Dl (appS 8 ([]:VI) e) λf=>
  Dl (idx p0 b) λg=>
  Dl (appS 8 f ([g]:VI)) λi=>
  Dl (subS s1 a (s1.length:Int)) λj=>
  Dl (appS 8 i j) λk=>
  some (.inr (.inr (k:VI)))) c
def kB (p0:VI):Option VI:=
 Dl (cntM (ic p0) p0.length 0 ([]:VI)) λa=>
 aft some (λb=>
  some (b:VI)) a
def fR (p0:VP) (p1:VI) (p2:Int) (a:Int) (s1:Int×Int):Option (Int⊕((Int×Int)⊕(Int×Int))):=
 Dl (idx p1 a) λd=>
 Dl (idx p0 d) λe=>
 Dl (lY e.Ask p2) λf=>
 Dl (bif f then
  some (a:Int)
 else
  some (s1.1:Int)) λb=>
 Dl (idx p1 a) λg=>
 Dl (idx p0 g) λi=>
 Dl (lY i.Give p2) λj=>
 Dl (bif j then
  some (a:Int)
 else
  some (s1.2:Int)) λc=>
 some (.inr (.inr (b,c)))
def j4 (p0:VP) (p1:VI) (p2:Int):Option Int:=
 Dl (cntM (fR p0 p1 p2) p1.length 0 (((-1):Int),((-1):Int))) λc=>
 aft some (λa=>
  Dl (bif decide (a.1<0) then
  some (decide (a.2<0))
  else
  some false) λb=>
  bif b then
   some (0:Int)
  else
   bif decide (a.2<a.1) then
    some ((Dr .i64 ((Dr .i64 (2 * a.1))+1)):Int)
   else
    some ((Dr .i64 ((Dr .i64 (2 * a.2))+2)):Int)) c
def eN  (a:Int) (s1:VI):Option ((Parity×VL×Bool)⊕(VI⊕VI)):=
 Dl (appS 8 s1 ([a]:VI)) λb=>
 some (.inr (.inr (b:VI)))
def gv (p0:Arena) (b:Place) (c:VI) (a:VL×VI×Int):Option ((Parity×VL×Bool)⊕((VL×VI×Int)⊕(VL×VI×Int))):=
 Dl (idx p0.Next b.At) λm=>
 bif decide (a.2.2<(m.length:Int)) then
  Dl (idx p0.Next b.At) λn=>
  Dl (idx n a.2.2) λd=>
  Dl (mW a.1 d c) λe=>
  Dl (bif decide (e<0) then
   bif decide (256<=(a.1.length:Int)) then
    some (.inl (((⟨(⟨([]:VI),([]:VV)⟩:Arena),([]:VI)⟩:Parity):Parity),([]:VL),false))
   else
    Dl (appS 8 ([]:VI) c) λj=>
    Dl (appS 32 a.1 ([(⟨d,j⟩:Place)]:VL)) λk=>
    some (.inr (k,((a.1.length:Int):Int)))
  else
   some (.inr (a.1,e)):Option ((Parity×VL×Bool)⊕(VL×Int))) λg=>
  aft (λi=>some (.inl i)) (λf=>
   Dl (appS 8 a.2.1 ([f.2]:VI)) λl=>
   some (.inr (.inr (f.1,l,((Dr .i64 (a.2.2+1)):Int))))) g
 else
  some (.inr (.inl (a.1,a.2.1,a.2.2)))
def eO (p0:Arena) (p1:VP) (a:VL×Int×VI×VV×VI):Option ((Parity×VL×Bool)⊕((VL×Int×VI×VV×VI)⊕(VL×Int×VI×VV×VI))):=
 bif decide (a.2.1<(a.1.length:Int)) then
  Dl (idx a.1 a.2.1) λb=>
  Dl (jZ p1 b.Record b.At) λm=>
  Dl (cd (gv p0 b m) (2 ^ 64) (a.1,([]:VI),(0:Int))) λd=>
  aft (λe=>some (.inl e)) (λc=>
   Dl (idx p0.Owner b.At) λf=>
   Dl (appS 8 a.2.2.1 ([f]:VI)) λg=>
   Dl (kB c.2.1) λi=>
   Dl (appS 24 a.2.2.2.1 ([i]:VV)) λj=>
   Dl (j4 p1 b.Record b.At) λk=>
   Dl (appS 8 a.2.2.2.2 ([k]:VI)) λl=>
   some (.inr (.inr (c.1,((Dr .i64 (a.2.1+1)):Int),g,j,l)))) d
 else
  some (.inr (.inl (a.1,a.2.1,a.2.2.1,a.2.2.2.1,a.2.2.2.2)))
def ia (p0:Arena) (p1:VP) (p2:Int):Option (Parity×VL×Bool):=
 Dl (lg p0) λg=>
 Dl (bif (!g) then
 some true
 else
 Dl (lh p1 (p0.Owner.length:Int)) λi=>
 some (!i)) λb=>
 Dl (bif b then
 some true
 else
 Dl (fS p2 0 (Dr .i64 ((p0.Owner.length:Int)-1))) λj=>
 some (!j)) λc=>
 bif c then
  some (((⟨(⟨([]:VI),([]:VV)⟩:Arena),([]:VI)⟩:Parity):Parity),([]:VL),false)
 else
  Dl (cntM eN p1.length 0 ([]:VI)) λd=>
  aft some (λf=>
   Dl (cd (eO p0 p1) (2 ^ 64) ((([(⟨p2,f⟩:Place)]:VL):VL),(0:Int),([]:VI),([]:VV),([]:VI))) λe=>
   aft some (λa=>
    some (((⟨(⟨a.2.2.1,a.2.2.2.1⟩:Arena),a.2.2.2.2⟩:Parity):Parity),a.1,true)) e) d
def lN (p0:Int) (s1:VI×Int):Option (VI⊕((VI×Int)⊕(VI×Int))):=
 Dl (bif decide (s1.2<p0) then
 some (decide (p0<=256))
 else
 some false) λa=>
 bif a then
  Dl (appS 8 s1.1 ([s1.2]:VI)) λb=>
  some (.inr (.inr (b,((Dr .i64 (s1.2+1)):Int))))
 else
  some (.inr (.inl (s1.1,s1.2)))
def qb (p0:Int):Option VI:=
 Dl (cd (lN p0) (2 ^ 64) (([]:VI),(0:Int))) λa=>
 aft some (λb=>
  some (b.1:VI)) a
def oV (p0:Parity):Option VI:=
 Dl (qb (p0.Prio.length:Int)) λa=>
 some (a:VI)
def iL (p0:Parity) (a:Int) (s1:Unit):Option (Bool⊕(Unit⊕Unit)):=
 Dl (idx p0.Prio a) λb=>
 Dl (fS b 0 40) λc=>
 bif (!c) then
  some (.inl (false:Bool))
 else
  some (.inr (.inr ()))
def i7 (p0:Parity):Option Bool:=
 Dl (lg p0.Arena) λc=>
 Dl (bif (!c) then
 some true
 else
 some ((p0.Prio.length:Int) !=(p0.Arena.Owner.length:Int))) λa=>
 bif a then
  some (false:Bool)
 else
  Dl (cntM (iL p0) p0.Prio.length 0 ()) λb=>
  aft some (λd=>
   some (true:Bool)) b
def nh (p0:Parity) (b:Int) (a:Int×VV):Option (l7Game⊕((Int×VV)⊕(Int×VV))):=
 Dl (idx p0.Arena.Next b) λd=>
 bif decide (a.1<(d.length:Int)) then
  Dl (idx p0.Arena.Next b) λe=>
  Dl (idx e a.1) λc=>
  Dl (idx a.2 c) λf=>
  Dl (appS 8 f ([b]:VI)) λg=>
  Dl (idx a.2 c) λj=>
  Dl (setI a.2 c (g:VI)) λi=>
  some (.inr (.inr (((Dr .i64 (a.1+1)):Int),i)))
 else
  some (.inr (.inl (a.1,a.2)))
def ng (p0:Parity) (a:Int) (s1:VV×VI):Option (l7Game⊕((VV×VI)⊕(VV×VI))):=
 Dl (idx s1.2 a) λf=>
 Dl (setI s1.2 a (-1)) λe=>
 Dl (cd (nh p0 a) (2 ^ 64) ((0:Int),s1.1)) λb=>
 aft (λc=>some (.inl c)) (λd=>
  some (.inr (.inr (d.2,e)))) b
def pz (p0:Parity):Option (l7Game):=
 Dl (mkS 24 (p0.Prio.length:Int) ([]:VI)) λa=>
 Dl (mkS 8 (p0.Prio.length:Int) (0:Int)) λb=>
 Dl (cntM (ng p0) p0.Prio.length 0 (((⟨p0.Arena.Owner,p0.Prio,p0.Arena.Next,a,b⟩:l7Game).prev:VV),((⟨p0.Arena.Owner,p0.Prio,p0.Arena.Next,a,b⟩:l7Game).pick:VI))) λd=>
 aft some (λc=>
  some ((⟨(⟨p0.Arena.Owner,p0.Prio,p0.Arena.Next,a,b⟩:l7Game).owner,(⟨p0.Arena.Owner,p0.Prio,p0.Arena.Next,a,b⟩:l7Game).prio,(⟨p0.Arena.Owner,p0.Prio,p0.Arena.Next,a,b⟩:l7Game).next,c.1,c.2⟩:l7Game):l7Game)) d
def kK (p1:VI) (b:Int) (s1:VB):Option (VB⊕(VB⊕VB)):=
 Dl (idx p1 b) λa=>
 Dl (idx s1 a) λd=>
 Dl (setI s1 a true) λc=>
 some (.inr (.inr (c:VB)))
def oy (p0:Int) (p1:VI):Option VB:=
 Dl (mkS 1 p0 (false:Bool)) λc=>
 Dl (cntM (kK p1) p1.length 0 (c:VB)) λa=>
 aft some (λb=>
  some (b:VB)) a
def nc (p0:l7Game) (p1:Int) (p2:Int):Option Bool:=
 Dl (idx p0.pick p1) λb=>
 Dl (bif decide (b<0) then
 some true
 else
 Dl (idx p0.pick p1) λc=>
 some (c==p2)) λa=>
 some (a:Bool)
def iU (p0:l7Game) (p1:VB) (p2:Int) (s1:Int×Int):Option (Int⊕((Int×Int)⊕(Int×Int))):=
 Dl (idx p0.next p2) λd=>
 bif decide (s1.2<(d.length:Int)) then
  Dl (idx p0.next p2) λe=>
  Dl (idx e s1.2) λa=>
  Dl (idx p1 a) λf=>
  Dl (bif f then
  Dl (nc p0 p2 a) λg=>
  some g
  else
  some false) λb=>
  Dl (bif b then
   some ((Dr .i64 (s1.1+1)):Int)
  else
   some (s1.1:Int)) λc=>
  some (.inr (.inr (c,((Dr .i64 (s1.2+1)):Int))))
 else
  some (.inr (.inl (s1.1,s1.2)))
def jb (p0:l7Game) (p1:VB) (p2:Int):Option Int:=
 Dl (cd (iU p0 p1 p2) (2 ^ 64) ((0:Int),(0:Int))) λa=>
 aft some (λb=>
  some (b.1:Int)) a
def mc (p0:l7Game) (p1:VB) (a:Int) (s1:Int):Option (Int⊕(Int⊕Int)):=
 Dl (idx p1 a) λc=>
 Dl (bif c then
  Dl (idx p0.prio a) λd=>
  Dl (kW s1 d) λe=>
  some (e:Int)
 else
  some (s1:Int)) λb=>
 some (.inr (.inr (b:Int)))
def qi (p0:l7Game) (p1:VB):Option Int:=
 Dl (cntM (mc p0 p1) p1.length 0 ((-1):Int)) λa=>
 aft some (λb=>
  some (b:Int)) a
def fC (p0:l7Game) (p1:VB) (c:VB) (a:Int) (s1:VI×VB×VI):Option (VB⊕((VI×VB×VI)⊕(VI×VB×VI))):=
 Dl (idx p1 a) λf=>
 Dl (bif f then
  Dl (jb p0 p1 a) λg=>
  Dl (idx s1.2.2 a) λn=>
  Dl (setI s1.2.2 a g) λl=>
  some (l:VI)
 else
  some (s1.2.2:VI)) λe=>
 Dl (idx p1 a) λi=>
 Dl (bif i then
 Dl (idx c a) λj=>
 some j
 else
 some false) λd=>
 Dl (bif d then
  Dl (idx s1.2.1 a) λo=>
  Dl (setI s1.2.1 a true) λm=>
  Dl (appS 8 s1.1 ([a]:VI)) λk=>
  some (k,m)
 else
  some (s1.1,s1.2.1)) λb=>
 some (.inr (.inr (b.1,b.2,e)))
def eo (p0:l7Game) (p1:VB) (p2:Int) (c:Int) (a:VI×Int×VB×VI):Option (VB⊕((VI×Int×VB×VI)⊕(VI×Int×VB×VI))):=
 Dl (idx p0.prev c) λo=>
 bif decide (a.2.1<(o.length:Int)) then
  Dl (idx p0.prev c) λp=>
  Dl (idx p a.2.1) λb=>
  Dl (idx p1 b) λq=>
  Dl (bif (!q) then
  some true
  else
  Dl (idx a.2.2.1 b) λr=>
  some r) λi=>
  Dl (bif i then
  some true
  else
  Dl (nc p0 b c) λj=>
  some (!j)) λf=>
  bif f then
   some (.inr (.inr (a.1,((Dr .i64 (a.2.1+1)):Int),a.2.2.1,a.2.2.2)))
  else
   Dl (idx a.2.2.2 b) λk=>
   Dl (idx a.2.2.2 b) λt=>
   Dl (setI a.2.2.2 b (Dr .i64 (k-1))) λe=>
   Dl (idx p0.owner b) λl=>
   Dl (bif (l==p2) then
   some true
   else
   Dl (idx e b) λm=>
   some (m==0)) λg=>
   Dl (bif g then
    Dl (idx a.2.2.1 b) λu=>
    Dl (setI a.2.2.1 b true) λs=>
    Dl (appS 8 a.1 ([b]:VI)) λn=>
    some (n,s)
   else
    some (a.1,a.2.2.1)) λd=>
   some (.inr (.inr (d.1,((Dr .i64 (a.2.1+1)):Int),d.2,e)))
 else
  some (.inr (.inl (a.1,a.2.1,a.2.2.1,a.2.2.2)))
def io (p0:l7Game) (p1:VB) (p2:Int) (a:VI×Int×VB×VI):Option (VB⊕((VI×Int×VB×VI)⊕(VI×Int×VB×VI))):=
 bif decide (a.2.1<(a.1.length:Int)) then
  Dl (idx a.1 a.2.1) λe=>
  Dl (cd (eo p0 p1 p2 e) (2 ^ 64) (a.1,(0:Int),a.2.2.1,a.2.2.2)) λc=>
  aft (λd=>some (.inl d)) (λb=>
   some (.inr (.inr (b.1,((Dr .i64 (a.2.1+1)):Int),b.2.2.1,b.2.2.2)))) c
 else
  some (.inr (.inl (a.1,a.2.1,a.2.2.1,a.2.2.2)))
def jn (p0:l7Game) (p1:VB) (p2:Int) (b:VB):Option VB:=
 Dl (mkS 1 (p1.length:Int) (false:Bool)) λf=>
 Dl (mkS 8 (p1.length:Int) (0:Int)) λg=>
 Dl (cntM (fC p0 p1 b) p1.length 0 (([]:VI),f,g)) λc=>
 aft some (λa=>
  Dl (cd (io p0 p1 p2) (2 ^ 64) (a.1,(0:Int),a.2.1,a.2.2)) λd=>
  aft some (λe=>
   some (e.2.2.1:VB)) d) c
def kJ (p0:VB) (p1:VB) (a:Int) (s1:VB):Option (VB⊕(VB⊕VB)):=
 Dl (idx p0 a) λc=>
 Dl (bif c then
 Dl (idx p1 a) λd=>
 some (!d)
 else
 some false) λb=>
 Dl (idx s1 a) λf=>
 Dl (setI s1 a b) λe=>
 some (.inr (.inr (e:VB)))
def nf (p0:VB) (p1:VB):Option VB:=
 Dl (mkS 1 (p0.length:Int) (false:Bool)) λc=>
 Dl (cntM (kJ p0 p1) p0.length 0 (c:VB)) λa=>
 aft some (λb=>
  some (b:VB)) a
def me (p0:l7Game) (p1:VB) (c:Int) (a:Int) (s1:VB):Option (VB⊕(VB⊕VB)):=
 Dl (idx p1 a) λd=>
 Dl (bif d then
 Dl (idx p0.prio a) λe=>
 some (e==c)
 else
 some false) λb=>
 Dl (idx s1 a) λg=>
 Dl (setI s1 a b) λf=>
 some (.inr (.inr (f:VB)))
def j9 (f:Int) (g:VB) (i:VB) (a:Int) (b:Bool×VB):Option (VB⊕((Bool×VB)⊕(Bool×VB))):=
 Dl (idx g a) λj=>
 Dl (bif j then
 Dl (idx i a) λk=>
 some (k !=((Dy f 2)==0))
 else
 some false) λd=>
 Dl (idx b.2 a) λm=>
 Dl (setI b.2 a d) λc=>
 Dl (bif b.1 then
 some true
 else
 Dl (idx c a) λl=>
 some l) λe=>
 some (.inr (.inr (e,c)))
def mf (p1:VB) (e:Int) (a:Int) (b:VB):Option (VB⊕(VB⊕VB)):=
 Dl (idx p1 a) λd=>
 Dl (bif d then
 some ((Dy e 2)==0)
 else
 some false) λc=>
 Dl (idx b a) λg=>
 Dl (setI b a c) λf=>
 some (.inr (.inr (f:VB)))
def mg (j:Int) (e:VB) (f:VB) (a:Int) (b:VB):Option (VB⊕(VB⊕VB)):=
 Dl (idx f a) λg=>
 Dl (bif g then
 some true
 else
 Dl (idx e a) λi=>
 Dl (bif i then
 some ((Dy j 2)==1)
 else
 some false) λc=>
 some c) λd=>
 Dl (idx b a) λl=>
 Dl (setI b a d) λk=>
 some (.inr (.inr (k:VB)))
def ka (rc:l7Game->VB->Option VB) (p0:l7Game) (p1:VB):Option VB:=
 Dl (qi p0 p1) λa=>
 Dl (mkS 1 (p1.length:Int) (false:Bool)) λb=>
 bif decide (a<0) then
  some (b:VB)
 else
  Dl (mkS 1 (p1.length:Int) (false:Bool)) λp=>
  Dl (cntM (me p0 p1 a) p1.length 0 (p:VB)) λg=>
  aft some (λl=>
   Dl (jn p0 p1 (Dy a 2) l) λq=>
   Dl (nf p1 q) λe=>
   Dl (rc p0 e) λr=>
   Dl (mkS 1 (p1.length:Int) (false:Bool)) λs=>
   Dl (cntM (j9 a e r) p1.length 0 (false,s)) λi=>
   aft some (λc=>
    bif (!c.1) then
     Dl (cntM (mf p1 a) p1.length 0 (b:VB)) λj=>
     aft some (λm=>
      some (m:VB)) j
    else
     Dl (jn p0 p1 (Dr .i64 (1-(Dy a 2))) c.2) λd=>
     Dl (nf p1 d) λn=>
     Dl (rc p0 n) λo=>
     Dl (cntM (mg a d o) p1.length 0 (b:VB)) λf=>
     aft some (λk=>
      some (k:VB)) f) i) g
def kX:Nat->l7Game->VB->Option VB
 |0=>λ_ _=>none
 |n+1=>ka (kX n)
def lV (p1:VI) (b:l7Game) (c:VB) (a:Int) (s1:Unit):Option ((VI×VI)⊕(Unit⊕Unit)):=
 Dl (idx p1 a) λd=>
 Dl (jb b c d) λe=>
 bif (e==0) then
  some (.inl (([]:VI),([]:VI)))
 else
  some (.inr (.inr ()))
def lW (p1:VI) (d:VB) (b:Int) (a:VI×VI):Option ((VI×VI)⊕((VI×VI)⊕(VI×VI))):=
 Dl (idx p1 b) λe=>
 Dl (idx d e) λf=>
 Dl (bif f then
  Dl (idx p1 b) λg=>
  Dl (appS 8 a.1 ([g]:VI)) λi=>
  some (i,a.2)
 else
  Dl (idx p1 b) λj=>
  Dl (appS 8 a.2 ([j]:VI)) λk=>
  some (a.1,k)) λc=>
 some (.inr (.inr (c.1,c.2)))
def qf (p0:Parity) (p1:VI):Option (VI×VI):=
 Dl (i7 p0) λg=>
 Dl (bif (!g) then
 some true
 else
 Dl (kV p1 (p0.Prio.length:Int)) λi=>
 some (!i)) λd=>
 bif d then
  some (([]:VI),([]:VI))
 else
  Dl (pz p0) λb=>
  Dl (oy (p0.Prio.length:Int) p1) λc=>
  Dl (cntM (lV p1 b c) p1.length 0 ()) λe=>
  aft some (λk=>
   Dl (kX (2 ^ 64) b c) λj=>
   Dl (cntM (lW p1 j) p1.length 0 (([]:VI),([]:VI))) λf=>
   aft some (λa=>
    some (a.1,a.2)) f) e
def m0 (p0:Sig) (p1:Det) (p2:Int):Option Int:=
 Dl (gY p0 p1) λb=>
 Dl (ia b.1 b.2.1 p2) λa=>
 bif (!a.2.2) then
  some ((-1):Int)
 else
  Dl (oV a.1) λc=>
  Dl (qf a.1 c) λd=>
  Dl (gH d.1 0) λe=>
  Dl (ig e) λf=>
  some ((Dr .i64 (1-f)):Int)
def kT (p0:Sig) (p1:Det):Option Int:=
 Dl (kU p0 p1) λb=>
 bif (!b) then
  some ((-1):Int)
 else
  Dl (m0 p0 p1 0) λa=>
  some (a:Int)
def d8 (p0:Sig) (p1:VC):Option Bool:=
 Dl (cO p0 p1) λa=>
 Dl (bif a.2 then
 Dl (kT p0 a.1) λc=>
 some (c==0)
 else
 some false) λb=>
 some (b:Bool)
def mb (p0:Sig):Option Int:=
 Dl (dR p0.In) λa=>
 some (a:Int)
def g8 (p0:Sig) (p1:Machine) (a:Int) (s1:Unit):Option (Bool⊕(Unit⊕Unit)):=
 Dl (idx p1.Next a) λe=>
 Dl (mb p0) λf=>
 Dl (bif ((e.length:Int) !=f) then
 some true
 else
 Dl (idx p1.Out a) λg=>
 Dl (idx p1.Next a) λi=>
 some ((g.length:Int) !=(i.length:Int))) λb=>
 Dl (bif b then
 some true
 else
 Dl (idx p1.Next a) λj=>
 Dl (ja j (p1.Next.length:Int)) λk=>
 some (!k)) λc=>
 Dl (bif c then
 some true
 else
 Dl (idx p1.Out a) λl=>
 Dl (dR p0.Out) λm=>
 Dl (ja l m) λn=>
 some (!n)) λd=>
 bif d then
  some (.inl (false:Bool))
 else
  some (.inr (.inr ()))
def kx (p0:Sig) (p1:Machine):Option Bool:=
 Dl (kg p0) λd=>
 Dl (bif (!d) then
 some true
 else
 Dl (fS (p1.Next.length:Int) 1 48) λe=>
 some (!e)) λa=>
 Dl (bif a then
 some true
 else
 some ((p1.Out.length:Int) !=(p1.Next.length:Int))) λb=>
 bif b then
  some (false:Bool)
 else
  Dl (cntM (g8 p0 p1) p1.Next.length 0 ()) λc=>
  aft some (λf=>
   some (true:Bool)) c
def jN (p0:l30Graph) (p1:Int) (p2:Int) (a:Int) (s1:Unit):Option ((Int×VI×VI)⊕(Unit⊕Unit)):=
 Dl (idx p0.of a) λc=>
 Dl (bif (c==p1) then
 Dl (idx p0.by0 a) λd=>
 some (d==p2)
 else
 some false) λb=>
 bif b then
  some (.inl (a,p0.of,p0.by0))
 else
  some (.inr (.inr ()))
def j6 (p0:l30Graph) (p1:Int) (p2:Int):Option (Int×VI×VI):=
 Dl (cntM (jN p0 p1 p2) p0.of.length 0 ()) λb=>
 aft some (λd=>
  Dl (appS 8 p0.of ([p1]:VI)) λa=>
  Dl (appS 8 p0.by0 ([p2]:VI)) λc=>
  some (((Dr .i64 ((a.length:Int)-1)):Int),a,c)) b
def gz (p0:Sig) (p1:Machine) (p2:Det) (s1:Int×VI×VI×VV×VV) (a:VI×VI×Int×VI×VI):Option ((l30Graph×Bool)⊕((VI×VI×Int×VI×VI)⊕(VI×VI×Int×VI×VI))):=
 Dl (mb p0) λe=>
 bif decide (a.2.2.1<e) then
  Dl (idx a.2.2.2.1 s1.1) λf=>
  Dl (idx p1.Out f) λg=>
  Dl (idx g a.2.2.1) λc=>
  Dl (mb p0) λd=>
  Dl (idx a.2.2.2.1 s1.1) λi=>
  Dl (idx p1.Next i) λj=>
  Dl (idx j a.2.2.1) λk=>
  Dl (idx a.2.2.2.2 s1.1) λl=>
  Dl (idx p2.Next l) λm=>
  Dl (idx m (Dr .i64 ((Dr .i64 (c * d))+a.2.2.1))) λn=>
  Dl (j6 (⟨a.2.2.2.1,a.2.2.2.2,s1.2.2.2.1,s1.2.2.2.2⟩:l30Graph) k n) λb=>
  Dl (appS 8 a.1 ([b.1]:VI)) λo=>
  Dl (appS 8 a.2.1 ([(Dr .i64 ((Dr .i64 (c * d))+a.2.2.1))]:VI)) λp=>
  some (.inr (.inr (o,p,((Dr .i64 (a.2.2.1+1)):Int),b.2.1,b.2.2)))
 else
  some (.inr (.inl (a.1,a.2.1,a.2.2.1,a.2.2.2.1,a.2.2.2.2)))
def gx (p0:Sig) (p1:Machine) (p2:Det) (s1:Int×VI×VI×VV×VV):Option ((l30Graph×Bool)⊕((Int×VI×VI×VV×VV)⊕(Int×VI×VI×VV×VV))):=
 bif decide (s1.1<(s1.2.1.length:Int)) then
  Dl (cd (gz p0 p1 p2 s1) (2 ^ 64) (([]:VI),([]:VI),(0:Int),s1.2.1,s1.2.2.1)) λb=>
  aft (λc=>some (.inl c)) (λa=>
   bif decide (256<(a.2.2.2.1.length:Int)) then
    some (.inl (((⟨([]:VI),([]:VI),([]:VV),([]:VV)⟩:l30Graph):l30Graph),false))
   else
    Dl (appS 24 s1.2.2.2.1 ([a.1]:VV)) λd=>
    Dl (appS 24 s1.2.2.2.2 ([a.2.1]:VV)) λe=>
    some (.inr (.inr (((Dr .i64 (s1.1+1)):Int),a.2.2.2.1,a.2.2.2.2,d,e)))) b
 else
  some (.inr (.inl (s1.1,s1.2.1,s1.2.2.1,s1.2.2.2.1,s1.2.2.2.2)))
def j7 (p0:Sig) (p1:Machine) (p2:Det):Option (l30Graph×Bool):=
 Dl (j6 (⟨([]:VI),([]:VI),([]:VV),([]:VV)⟩:l30Graph) 0 0) λb=>
 Dl (cd (gx p0 p1 p2) (2 ^ 64) ((0:Int),b.2.1,b.2.2,([]:VV),([]:VV))) λc=>
 aft some (λa=>
  some (((⟨a.2.1,a.2.2.1,a.2.2.2.1,a.2.2.2.2⟩:l30Graph):l30Graph),true)) c
def jO (p0:l30Graph) (p1:VI) (a:Int) (s1:VI):Option (VI⊕(VI⊕VI)):=
 Dl (idx p0.by0 a) λc=>
 Dl (gH p1 c) λd=>
 Dl (bif d then
  Dl (appS 8 s1 ([a]:VI)) λe=>
  some (e:VI)
 else
  some (s1:VI)) λb=>
 some (.inr (.inr (b:VI)))
def lj (p0:l30Graph) (p1:VI):Option VI:=
 Dl (cntM (jO p0 p1) p0.by0.length 0 ([]:VI)) λa=>
 aft some (λb=>
  some (b:VI)) a
def fP (p2:Det) (b:l30Graph×Bool) (a:Int) (s1:VP):Option ((VV×VP×Bool)⊕(VP⊕VP)):=
 Dl (idx p2.Pairs a) λc=>
 Dl (idx p2.Pairs a) λe=>
 Dl (lj b.1 c.Ask) λd=>
 Dl (lj b.1 e.Give) λf=>
 Dl (appS 48 s1 ([(⟨d,f⟩:Pair)]:VP)) λg=>
 some (.inr (.inr (g:VP)))
def oT (p0:Sig) (p1:Machine) (p2:Det):Option (VV×VP×Bool):=
 Dl (kx p0 p1) λe=>
 Dl (bif (!e) then
 some true
 else
 Dl (kU p0 p2) λf=>
 some (!f)) λb=>
 bif b then
  some (([]:VV),([]:VP),false)
 else
  Dl (j7 p0 p1 p2) λa=>
  bif (!a.2) then
   some (([]:VV),([]:VP),false)
  else
   Dl (cntM (fP p2 a) p2.Pairs.length 0 ([]:VP)) λc=>
   aft some (λd=>
    some (a.1.next,d,true)) c
def jM (p0:Sig) (p1:Machine) (p2:VC):Option (VV×VP×Bool):=
 Dl (cO p0 p2) λb=>
 bif (!b.2) then
  some (([]:VV),([]:VP),false)
 else
  Dl (oT p0 p1 b.1) λa=>
  some (a.1,a.2.1,a.2.2)
def kI (p1:VI) (a:Int) (s1:VB):Option (VB⊕(VB⊕VB)):=
 Dl (gH p1 a) λb=>
 Dl (appS 1 s1 ([(!b)]:VB)) λc=>
 some (.inr (.inr (c:VB)))
def na (p0:Int) (p1:VI):Option VB:=
 Dl (rng p0) λ_=>
 Dl (cntM (kI p1) (Dq (p0-0)) 0 ([]:VB)) λa=>
 aft some (λb=>
  some (b:VB)) a
def kF  (b:Int) (s1:VI):Option (VI⊕(VI⊕VI)):=
 Dl (appS 8 s1 ([(-1)]:VI)) λa=>
 some (.inr (.inr (a:VI)))
def eb (p0:VV) (p1:VB) (c:Int) (b:Int) (a:Int×VI):Option (VI⊕((Int×VI)⊕(Int×VI))):=
 Dl (idx p0 b) λg=>
 Dl (bif decide (a.1<(g.length:Int)) then
 Dl (idx a.2 b) λi=>
 some (decide (i<0))
 else
 some false) λd=>
 Dl (bif d then
 Dl (idx p1 b) λj=>
 some j
 else
 some false) λe=>
 bif e then
  Dl (idx p0 b) λk=>
  Dl (idx k a.1) λl=>
  Dl (idx a.2 l) λm=>
  Dl (bif (m==c) then
   Dl (idx a.2 b) λo=>
   Dl (setI a.2 b (Dr .i64 (c+1))) λn=>
   some (n:VI)
  else
   some (a.2:VI)) λf=>
  some (.inr (.inr (((Dr .i64 (a.1+1)):Int),f)))
 else
  some (.inr (.inl (a.1,a.2)))
def kH (p0:VV) (p1:VB) (f:Int) (e:Int) (d:VI):Option (VI⊕(VI⊕VI)):=
 Dl (cd (eb p0 p1 f e) (2 ^ 64) ((0:Int),d)) λa=>
 aft (λb=>some (.inl b)) (λc=>
  some (.inr (.inr (c.2:VI)))) a
def kG (p0:VV) (p1:VB) (e:Int) (c:VI):Option (VI⊕(VI⊕VI)):=
 Dl (cntM (kH p0 p1 e) p0.length 0 (c:VI)) λa=>
 aft (λb=>some (.inl b)) (λd=>
  some (.inr (.inr (d:VI)))) a
def m9 (p0:VV) (p1:VB) (p2:Int):Option VI:=
 Dl (cntM kF p0.length 0 ([]:VI)) λb=>
 aft some (λa=>
  Dl (idx a p2) λf=>
  Dl (setI a p2 0) λe=>
  Dl (cntM (kG p0 p1) p0.length 0 (e:VI)) λc=>
  aft some (λd=>
   some (d:VI)) c) b
def gg (p0:VV) (p1:VI) (p2:Int) (s1:Int):Option (Bool⊕(Int⊕Int)):=
 Dl (idx p0 p2) λa=>
 bif decide (s1<(a.length:Int)) then
  Dl (idx p0 p2) λb=>
  Dl (idx b s1) λc=>
  Dl (idx p1 c) λd=>
  bif decide (0<=d) then
   some (.inl (true:Bool))
  else
   some (.inr (.inr ((Dr .i64 (s1+1)):Int)))
 else
  some (.inr (.inl (s1:Int)))
def jP (p0:VV) (p1:VI) (p2:Int):Option Bool:=
 Dl (cd (gg p0 p1 p2) (2 ^ 64) (0:Int)) λa=>
 aft some (λb=>
  some (false:Bool)) a
def dK (p0:VV) (p1:Pair) (b:VB) (d:Int) (s1:Unit):Option (Int⊕(Unit⊕Unit)):=
 Dl (idx p1.Ask d) λa=>
 Dl (idx b a) λe=>
 Dl (bif e then
 Dl (m9 p0 b a) λf=>
 Dl (jP p0 f a) λg=>
 some g
 else
 some false) λc=>
 bif c then
  some (.inl (a:Int))
 else
  some (.inr (.inr ()))
def jm (p0:VV) (p1:Pair):Option Int:=
 Dl (na (p0.length:Int) p1.Give) λb=>
 Dl (cntM (dK p0 p1 b) p1.Ask.length 0 ()) λa=>
 aft some (λc=>
  some ((-1):Int)) a
def gu (a:VV×VP×Bool) (s1:VI×Int):Option (VI⊕((VI×Int)⊕(VI×Int))):=
 Dl (bif a.2.2 then
 some (decide (s1.2<(a.2.1.length:Int)))
 else
 some false) λb=>
 bif b then
  Dl (idx a.2.1 s1.2) λd=>
  Dl (jm a.1 d) λe=>
  Dl (bif decide (0<=e) then
   Dl (appS 8 s1.1 ([s1.2]:VI)) λf=>
   some (f:VI)
  else
   some (s1.1:VI)) λc=>
  some (.inr (.inr (c,((Dr .i64 (s1.2+1)):Int))))
 else
  some (.inr (.inl (s1.1,s1.2)))
def lO (p0:Sig) (p1:Machine) (p2:VC):Option VI:=
 Dl (jM p0 p1 p2) λc=>
 Dl (cd (gu c) (2 ^ 64) (([]:VI),(0:Int))) λa=>
 aft some (λb=>
  some (b.1:VI)) a
def lT (p0:Sig) (p1:Machine) (p2:VC):Option Bool:=
 Dl (jM p0 p1 p2) λb=>
 Dl (bif b.2.2 then
 Dl (lO p0 p1 p2) λc=>
 some ((c.length:Int)==0)
 else
 some false) λa=>
 some (a:Bool)
def gO (p0:Sig) (p1:Machine) (a:Int) (s1:Unit):Option (Bool⊕(Unit⊕Unit)):=
 Dl (idx p1.Next a) λb=>
 Dl (dQ p0) λf=>
 Dl (bif ((b.length:Int) !=f) then
 some true
 else
 Dl (idx p1.Out a) λg=>
 some ((g.length:Int) !=(b.length:Int))) λc=>
 Dl (bif c then
 some true
 else
 Dl (fN b (p1.Next.length:Int)) λi=>
 some (!i)) λd=>
 Dl (bif d then
 some true
 else
 Dl (idx p1.Out a) λj=>
 Dl (nn p0.Out) λ_z64=>
 Dl (fN j (Dr .i64 (1 * 2 ^ (min (Dq p0.Out) (Dz DA))))) λk=>
 some (!k)) λe=>
 bif e then
  some (.inl (false:Bool))
 else
  some (.inr (.inr ()))
def jg (p0:Sig) (p1:Machine):Option Bool:=
 Dl (bif decide ((p1.Next.length:Int)<1) then
 some true
 else
 some (decide (48<(p1.Next.length:Int)))) λa=>
 Dl (bif a then
 some true
 else
 some ((p1.Out.length:Int) !=(p1.Next.length:Int))) λb=>
 bif b then
  some (false:Bool)
 else
  Dl (cntM (gO p0 p1) p1.Next.length 0 ()) λc=>
  aft some (λd=>
   some (true:Bool)) c
def eW (p0:Machine) (b:Int) (c:Int) (a:VI):Option (VI⊕(VI⊕VI)):=
 Dl (idx p0.Out b) λd=>
 Dl (idx p0.Out c) λe=>
 Dl (c8 d e) λf=>
 bif f then
  Dl (idx a b) λi=>
  Dl (setI a b c) λg=>
  some (.inr (.inl (g:VI)))
 else
  some (.inr (.inr (a:VI)))
def ec (p0:Machine) (a:Int) (s1:VI):Option (VI⊕(VI⊕VI)):=
 Dl (rng (Dr .i64 (a+1))) λ_=>
 Dl (cntM (eW p0 a) (Dq ((Dr .i64 (a+1))-0)) 0 (s1:VI)) λb=>
 aft (λc=>some (.inl c)) (λd=>
  some (.inr (.inr (d:VI)))) b
def dN (p0:Machine) (a:VI) (e:Int) (f:Int) (b:Int) (d:Bool):Option (VI⊕(Bool⊕Bool)):=
 Dl (bif d then
 Dl (idx p0.Next e) λg=>
 Dl (idx g b) λi=>
 Dl (idx a i) λj=>
 Dl (idx p0.Next f) λk=>
 Dl (idx k b) λl=>
 Dl (idx a l) λm=>
 some (j==m)
 else
 some false) λc=>
 some (.inr (.inr (c:Bool)))
def eY (p0:Machine) (c:VI) (a:Int) (d:Int) (b:VI):Option (VI⊕(VI⊕VI)):=
 Dl (idx c a) λi=>
 Dl (idx c d) λj=>
 Dl (idx p0.Next a) λk=>
 Dl (cntM (dN p0 c a d) k.length 0 ((i==j):Bool)) λe=>
 aft (λf=>some (.inl f)) (λg=>
  bif g then
   Dl (idx b a) λm=>
   Dl (setI b a d) λl=>
   some (.inr (.inl (l:VI)))
  else
   some (.inr (.inr (b:VI)))) e
def ee (p0:Machine) (f:VI) (a:Int) (d:VI):Option (VI⊕(VI⊕VI)):=
 Dl (rng (Dr .i64 (a+1))) λ_=>
 Dl (cntM (eY p0 f a) (Dq ((Dr .i64 (a+1))-0)) 0 (d:VI)) λb=>
 aft (λc=>some (.inl c)) (λe=>
  some (.inr (.inr (e:VI)))) b
def ed (p0:Machine) (a:VI):Option (VI⊕(VI⊕VI)):=
 Dl (mkS 8 (a.length:Int) (0:Int)) λf=>
 Dl (cntM (ee p0 a) a.length 0 (f:VI)) λc=>
 aft (λd=>some (.inl d)) (λb=>
  Dl (c8 b a) λe=>
  bif e then
   some (.inl (a:VI))
  else
   some (.inr (.inr (b:VI)))) c
def iG (p0:Machine):Option VI:=
 Dl (mkS 8 (p0.Next.length:Int) (0:Int)) λa=>
 Dl (cntM (ec p0) a.length 0 (a:VI)) λb=>
 aft some (λd=>
  Dl (cd (ed p0) (2 ^ 64) (d:VI)) λc=>
  aft some (λe=>
   none) c) b
def ir (c:VI) (g:VI) (f:Int) (a:VI×VI):Option (Machine⊕((VI×VI)⊕(VI×VI))):=
 Dl (idx g f) λd=>
 Dl (idx c d) λi=>
 Dl (cR a.1 i) λe=>
 Dl (bif decide (e<0) then
  Dl (idx c d) λj=>
  Dl (appS 8 a.1 ([j]:VI)) λk=>
  some (k,((a.1.length:Int):Int))
 else
  some (a.1,e)) λb=>
 Dl (appS 8 a.2 ([b.2]:VI)) λl=>
 some (.inr (.inr (b.1,l)))
def dE (p1:Machine) (e:VI) (s1:VI×Int×VV×VV):Option (Machine⊕((VI×Int×VV×VV)⊕(VI×Int×VV×VV))):=
 bif decide (s1.2.1<(s1.1.length:Int)) then
  Dl (idx s1.1 s1.2.1) λf=>
  Dl (idx p1.Next f) λb=>
  Dl (cntM (ir e b) b.length 0 (s1.1,([]:VI))) λc=>
  aft (λd=>some (.inl d)) (λa=>
   Dl (appS 24 s1.2.2.1 ([a.2]:VV)) λg=>
   Dl (idx a.1 s1.2.1) λi=>
   Dl (idx p1.Out i) λj=>
   Dl (appS 8 ([]:VI) j) λk=>
   Dl (appS 24 s1.2.2.2 ([k]:VV)) λl=>
   some (.inr (.inr (a.1,((Dr .i64 (s1.2.1+1)):Int),g,l)))) c
 else
  some (.inr (.inl (s1.1,s1.2.1,s1.2.2.1,s1.2.2.2)))
def la (p0:Sig) (p1:Machine):Option (Machine):=
 Dl (kQ p0) λe=>
 Dl (bif (!e) then
 some true
 else
 Dl (jg p0 p1) λf=>
 some (!f)) λc=>
 bif c then
  some ((⟨([]:VV),([]:VV)⟩:Machine):Machine)
 else
  Dl (iG p1) λb=>
  Dl (idx b 0) λg=>
  Dl (cd (dE p1 b) (2 ^ 64) ((([g]:VI):VI),(0:Int),([]:VV),([]:VV))) λd=>
  aft some (λa=>
   some ((⟨a.2.2.1,a.2.2.2⟩:Machine):Machine)) d
def iw (p0:Sig) (p1:Machine) (p2:Det) (x42:(Int×Int)) (x47:(Int×Int)) (m:VI) (b:Int) (a:(List (Int×Int))×VI×VI×(List ((Int×Int)×Int))):Option (((Option watch)×Bool)⊕(((List (Int×Int))×VI×VI×(List ((Int×Int)×Int)))⊕((List (Int×Int))×VI×VI×(List ((Int×Int)×Int))))):=
 Dl (idx m b) λd=>
 Dl (idx p1.Out x42.1) λn=>
 Dl (idx n b) λf=>
 Dl (dQ p0) λg=>
 Dl (idx p2.Next x47.2) λo=>
 Dl (idx o (Dr .i64 ((Dr .i64 (f * g))+b))) λe=>
 Dl (mget kwI2 a.2.2.2 ((d,e):(Int×Int)) (0:Int)) λi=>
 Dl (bif (!i.2) then
  Dl (mset kwI2 a.2.2.2 ((d,e):(Int×Int)) (a.1.length:Int)) λp=>
  Dl (appS 16 a.1 ([(d,e)]:List (Int×Int))) λj=>
  some (j,((a.1.length:Int):Int),p)
 else
  some (a.1,i.1,a.2.2.2)) λc=>
 Dl (appS 8 a.2.1 ([c.2.1]:VI)) λk=>
 Dl (appS 8 a.2.2.1 ([(Dr .i64 ((Dr .i64 (f * g))+b))]:VI)) λl=>
 some (.inr (.inr (c.1,k,l,c.2.2)))
def iv (p0:Sig) (p1:Machine) (p2:Det) (s1:(List (Int×Int))×Int×VV×VV×(List ((Int×Int)×Int))):Option (((Option watch)×Bool)⊕(((List (Int×Int))×Int×VV×VV×(List ((Int×Int)×Int)))⊕((List (Int×Int))×Int×VV×VV×(List ((Int×Int)×Int))))):=
 bif decide (s1.2.1<(s1.1.length:Int)) then
  Dl (idx s1.1 s1.2.1) λb=>
  Dl (idx s1.1 s1.2.1) λi=>
  Dl (idx p1.Next b.1) λc=>
  Dl (cntM (iw p0 p1 p2 b i c) c.length 0 (s1.1,([]:VI),([]:VI),s1.2.2.2.2)) λd=>
  aft (λe=>some (.inl e)) (λa=>
   bif decide (256<(a.1.length:Int)) then
    some (.inl ((none:Option watch),false))
   else
    Dl (appS 24 s1.2.2.1 ([a.2.1]:VV)) λf=>
    Dl (appS 24 s1.2.2.2.1 ([a.2.2.1]:VV)) λg=>
    some (.inr (.inr (a.1,((Dr .i64 (s1.2.1+1)):Int),f,g,a.2.2.2)))) d
 else
  some (.inr (.inl (s1.1,s1.2.1,s1.2.2.1,s1.2.2.2.1,s1.2.2.2.2)))
def iz (g:(List (Int×Int))×Int×VV×VV×(List ((Int×Int)×Int))) (c:Pair) (b:Int) (a:VI×VI):Option (((Option watch)×Bool)⊕((VI×VI)⊕(VI×VI))):=
 Dl (idx g.1 b) λd=>
 Dl (bY c.Ask d.2) λi=>
 Dl (bif i then
  Dl (appS 8 a.1 ([b]:VI)) λj=>
  some (j:VI)
 else
  some (a.1:VI)) λe=>
 Dl (bY c.Give d.2) λk=>
 Dl (bif k then
  Dl (appS 8 a.2 ([b]:VI)) λl=>
  some (l:VI)
 else
  some (a.2:VI)) λf=>
 some (.inr (.inr (e,f)))
def iy (p2:Det) (b:(List (Int×Int))×Int×VV×VV×(List ((Int×Int)×Int))) (f:Int) (e:VP):Option (((Option watch)×Bool)⊕(VP⊕VP)):=
 Dl (idx p2.Pairs f) λg=>
 Dl (cntM (iz b g) b.1.length 0 (([]:VI),([]:VI))) λc=>
 aft (λd=>some (.inl d)) (λa=>
  Dl (appS 48 e ([(⟨a.1,a.2⟩:Pair)]:VP)) λi=>
  some (.inr (.inr (i:VP)))) c
def lb (p0:Sig) (p1:Machine) (p2:Det):Option ((Option watch)×Bool):=
 Dl (mset kwI2 ([]:List ((Int×Int)×Int)) ((0,0):(Int×Int)) 0) λe=>
 Dl (cd (iv p0 p1 p2) (2 ^ 64) ((([(0,0)]:List (Int×Int)):(List (Int×Int))),(0:Int),([]:VV),([]:VV),e)) λb=>
 aft some (λa=>
  Dl (cntM (iy p2 a) p2.Pairs.length 0 ([]:VP)) λc=>
  aft some (λd=>
   some ((some (((⟨a.2.2.1,a.2.2.2.1,d⟩:watch):watch)):Option watch),true)) c) b
def iY (p0:Sig) (p1:Machine) (p2:VC):Option ((Option watch)×Bool):=
 Dl (kQ p0) λd=>
 Dl (bif (!d) then
 some true
 else
 Dl (jg p0 p1) λe=>
 some (!e)) λc=>
 bif c then
  some ((none:Option watch),false)
 else
  Dl (dh p0 p2) λa=>
  bif (!a.2) then
   some ((none:Option watch),false)
  else
   Dl (lb p0 p1 a.1) λb=>
   some ((b.1:Option watch),b.2)
def ek (p1:VI) (a:Int) (s1:VB):Option (VB⊕(VB⊕VB)):=
 Dl (bY p1 a) λb=>
 Dl (idx s1 a) λd=>
 Dl (setI s1 a (!b)) λc=>
 some (.inr (.inr (c:VB)))
def ga (p0:watch) (p1:VI):Option VB:=
 Dl (mkS 1 (p0.next.length:Int) (false:Bool)) λa=>
 Dl (cntM (ek p1) a.length 0 (a:VB)) λb=>
 aft some (λc=>
  some (c:VB)) b
def mq (p0:Int) (c0:VI):Option VI:=
 Dl (appS 8 c0 ([p0]:VI)) λa=>
 some (a:VI)
def cu (rc:Int->VV->VI->VB->VB->Option (VI×VB)) (p1:VV) (b:VB) (g:VI) (f:Int) (s1:VI×VB):Option ((VI×VB)⊕((VI×VB)⊕(VI×VB))):=
 Dl (idx g f) λa=>
 Dl (idx b a) λi=>
 Dl (bif i then
 Dl (idx s1.2 a) λj=>
 some (!j)
 else
 some false) λe=>
 Dl (bif e then
  Dl (rc a p1 s1.1 s1.2 b) λd=>
  some (d.1,d.2)
 else
  some (s1.1,s1.2)) λc=>
 some (.inr (.inr (c.1,c.2)))
def cv (rc:Int->VV->VI->VB->VB->Option (VI×VB)) (p0:Int) (p1:VV) (d:VI) (c0:VB) (c:VB):Option (VI×VB):=
 Dl (idx c0 p0) λi=>
 Dl (setI c0 p0 true) λg=>
 Dl (idx p1 p0) λb=>
 Dl (cntM (cu rc p1 c b) b.length 0 (d,g)) λe=>
 aft some (λa=>
  Dl (mq p0 a.1) λf=>
  some (f,a.2)) e
def ca:Nat->Int->VV->VI->VB->VB->Option (VI×VB)
 |0=>λ_ _ _ _ _=>none
 |n+1=>cv (ca n)
def nW (p0:Int) (c0:VI):Option VI:=
 Dl (appS 8 c0 ([p0]:VI)) λa=>
 some (a:VI)
def cX (rc:Int->VV->VI->VB->VB->Option (VI×VB)) (p1:VV) (b:VB) (g:VI) (f:Int) (s1:VI×VB):Option ((VI×VB)⊕((VI×VB)⊕(VI×VB))):=
 Dl (idx g f) λa=>
 Dl (idx b a) λi=>
 Dl (bif i then
 Dl (idx s1.2 a) λj=>
 some (!j)
 else
 some false) λe=>
 Dl (bif e then
  Dl (rc a p1 s1.1 s1.2 b) λd=>
  some (d.1,d.2)
 else
  some (s1.1,s1.2)) λc=>
 some (.inr (.inr (c.1,c.2)))
def cJ (rc:Int->VV->VI->VB->VB->Option (VI×VB)) (p0:Int) (p1:VV) (d:VI) (c0:VB) (c:VB):Option (VI×VB):=
 Dl (idx c0 p0) λi=>
 Dl (setI c0 p0 true) λg=>
 Dl (idx p1 p0) λb=>
 Dl (cntM (cX rc p1 c b) b.length 0 (d,g)) λe=>
 aft some (λa=>
  Dl (nW p0 a.1) λf=>
  some (f,a.2)) e
def cq:Nat->Int->VV->VI->VB->VB->Option (VI×VB)
 |0=>λ_ _ _ _ _=>none
 |n+1=>cJ (cq n)
def eS (p0:VV):Option VV:=
 if p0.length<4611686018427387904/\(p0.all λa=> !a.isEmpty)=true then some (p0.mergeSort leI) else none
def js (p1:VB) (c:Int) (g:VI) (f:Int) (a:VV):Option (VV⊕(VV⊕VV)):=
 Dl (idx g f) λb=>
 Dl (idx p1 c) λi=>
 Dl (bif i then
 Dl (idx p1 b) λj=>
 some j
 else
 some false) λd=>
 Dl (bif d then
  Dl (idx a b) λk=>
  Dl (appS 8 k ([c]:VI)) λl=>
  Dl (idx a b) λn=>
  Dl (setI a b (l:VI)) λm=>
  some (m:VV)
 else
  some (a:VV)) λe=>
 some (.inr (.inr (e:VV)))
def fO (p0:VV) (p1:VB) (a:Int) (s1:VV):Option (VV⊕(VV⊕VV)):=
 Dl (idx p0 a) λb=>
 Dl (cntM (js p1 a b) b.length 0 (s1:VV)) λc=>
 aft (λd=>some (.inl d)) (λe=>
  some (.inr (.inr (e:VV)))) c
def iu (p0:VV) (p1:VB) (b:Int) (a:VI×VB):Option (VV⊕((VI×VB)⊕(VI×VB))):=
 Dl (idx p1 b) λf=>
 Dl (bif f then
 Dl (idx a.2 b) λg=>
 some (!g)
 else
 some false) λe=>
 Dl (bif e then
  Dl (ca (2 ^ 64) b p0 a.1 a.2 p1) λd=>
  some (d.1,d.2)
 else
  some (a.1,a.2)) λc=>
 some (.inr (.inr (c.1,c.2)))
def dF (p0:VV) (p1:VB) (g:VV) (f:VI×VB) (a:VV×Int×VB):Option (VV⊕((VV×Int×VB)⊕(VV×Int×VB))):=
 bif decide (0<=a.2.1) then
  Dl (idx f.1 a.2.1) λb=>
  Dl (idx a.2.2 b) λi=>
  bif i then
   some (.inr (.inr (a.1,((Dr .i64 (a.2.1-1)):Int),a.2.2)))
  else
   Dl (cq (2 ^ 64) b g ([]:VI) a.2.2 p1) λc=>
   Dl (cA c.1) λj=>
   Dl (bif decide (1<(c.1.length:Int)) then
   some true
   else
   Dl (idx p0 b) λk=>
   Dl (bY k b) λl=>
   some l) λd=>
   Dl (bif d then
    Dl (appS 24 a.1 ([j]:VV)) λm=>
    some (m:VV)
   else
    some (a.1:VV)) λe=>
   some (.inr (.inr (e,((Dr .i64 (a.2.1-1)):Int),c.2)))
 else
  some (.inr (.inl (a.1,a.2.1,a.2.2)))
def mN (p0:VV) (p1:VB):Option VV:=
 Dl (mkS 24 (p0.length:Int) ([]:VI)) λi=>
 Dl (cntM (fO p0 p1) p0.length 0 (i:VV)) λc=>
 aft some (λf=>
  Dl (mkS 1 (p0.length:Int) (false:Bool)) λj=>
  Dl (cntM (iu p0 p1) p0.length 0 (([]:VI),j)) λd=>
  aft some (λa=>
   Dl (mkS 1 (p0.length:Int) (false:Bool)) λk=>
   Dl (cd (dF p0 p1 f a) (2 ^ 64) (([]:VV),((Dr .i64 ((a.1.length:Int)-1)):Int),k)) λb=>
   aft some (λe=>
    Dl (eS e.1) λg=>
    some (g:VV)) b) d) c
def en (p1:Pair) (e:VI) (d:Int) (a:VI):Option (VI⊕(VI⊕VI)):=
 Dl (idx e d) λb=>
 Dl (bY p1.Ask b) λf=>
 Dl (bif f then
  Dl (appS 8 a ([b]:VI)) λg=>
  some (g:VI)
 else
  some (a:VI)) λc=>
 some (.inr (.inr (c:VI)))
def em (p1:Pair) (f:VV) (e:Int) (s1:VI):Option (VI⊕(VI⊕VI)):=
 Dl (idx f e) λa=>
 Dl (cntM (en p1 a) a.length 0 (s1:VI)) λb=>
 aft (λc=>some (.inl c)) (λd=>
  some (.inr (.inr (d:VI)))) b
def gc (p0:watch) (p1:Pair):Option VI:=
 Dl (ga p0 p1.Give) λd=>
 Dl (mN p0.next d) λa=>
 Dl (cntM (em p1 a) a.length 0 ([]:VI)) λb=>
 aft some (λc=>
  Dl (cA c) λe=>
  some (e:VI)) b
def eE (p0:watch) (a:Int) (s1:VI):Option (VI⊕(VI⊕VI)):=
 Dl (idx p0.pairs a) λc=>
 Dl (gc p0 c) λd=>
 Dl (bif decide (0<(d.length:Int)) then
  Dl (appS 8 s1 ([a]:VI)) λe=>
  some (e:VI)
 else
  some (s1:VI)) λb=>
 some (.inr (.inr (b:VI)))
def gT (p0:watch):Option VI:=
 Dl (cntM (eE p0) p0.pairs.length 0 ([]:VI)) λa=>
 aft some (λb=>
  some (b:VI)) a
def lu (p0:Sig) (p1:Machine) (p2:VC):Option Bool:=
 Dl (iY p0 p1 p2) λa=>
 Dl (bif a.2 then
 Dl (guardS a.1.isSome) λ_g504=>
 Dl (gT (a.1.getD (⟨([]:VV),([]:VV),([]:VP)⟩:watch))) λc=>
 some ((c.length:Int)==0)
 else
 some false) λb=>
 some (b:Bool)
def pX (p0:VI):Option Bool:=
 Dl (xR p0) λm=>
 bif m then
  some (true:Bool)
 else
  Dl (r6 p0 928) λf=>
  Dl (kr f 2) λa=>
  Dl (jf (⟨1,1⟩:Sig) a.1) λb=>
  bif (!b.2) then
   Dl (d8 (⟨1,1⟩:Sig) a.1) λg=>
   Dl (bif (!g) then
   some ((b.1.Next.length:Int)==0)
   else
   some false) λc=>
   some (c:Bool)
  else
   Dl (d8 (⟨1,1⟩:Sig) a.1) λi=>
   Dl (bif i then
   Dl (lT (⟨1,1⟩:Sig) b.1 a.1) λj=>
   some j
   else
   some false) λd=>
   Dl (bif d then
   Dl (la (⟨1,1⟩:Sig) b.1) λk=>
   Dl (lu (⟨1,1⟩:Sig) k a.1) λl=>
   some l
   else
   some false) λe=>
   some (e:Bool)
def nU (p0:Arena) (p1:Int):Option Bool:=
 Dl (bif decide (0<=p1) then
 Dl (n8 p0) λb=>
 some (decide (p1<b))
 else
 some false) λa=>
 some (a:Bool)
def o8 (p0:Arena) (p1:VP) (p2:Int):Option Int:=
 Dl (kZ p0) λd=>
 Dl (bif (!d) then
 some true
 else
 Dl (n8 p0) λe=>
 Dl (jU p1 e) λf=>
 some (!f)) λb=>
 Dl (bif b then
 some true
 else
 Dl (nU p0 p2) λg=>
 some (!g)) λc=>
 bif c then
  some ((-1):Int)
 else
  Dl (eh p0 p1 p2) λa=>
  bif (!a.2.2) then
   some ((-1):Int)
  else
   Dl (fl a.1) λi=>
   Dl (idx i 0) λj=>
   some (j:Int)
def pN (p0:Sig) (p1:Det):Option Int:=
 Dl (kQ p0) λe=>
 Dl (bif (!e) then
 some true
 else
 Dl (oF p0 p1) λc=>
 some (!c)) λb=>
 bif b then
  some ((-1):Int)
 else
  Dl (fK p0 p1) λa=>
  Dl (o8 a.1 a.2 0) λd=>
  some (d:Int)
def kc (p0:Sig) (p1:VC):Option Bool:=
 Dl (dh p0 p1) λa=>
 Dl (bif a.2 then
 Dl (pN p0 a.1) λc=>
 some (c==0)
 else
 some false) λb=>
 some (b:Bool)
def ox  (b:Int) (s1:VI):Option (VI⊕(VI⊕VI)):=
 Dl (appS 8 s1 ([(-1)]:VI)) λa=>
 some (.inr (.inr (a:VI)))
def sO (p0:Int):Option VI:=
 Dl (rng p0) λ_=>
 Dl (cntM ox (Dq (p0-0)) 0 ([]:VI)) λa=>
 aft some (λb=>
  some (b:VI)) a
def va (p0:VI) (p1:Int) (a:Int) (s1:Unit):Option (Bool⊕(Unit⊕Unit)):=
 Dl (idx p0 a) λb=>
 bif (b==p1) then
  some (.inl (true:Bool))
 else
  some (.inr (.inr ()))
def yP (p0:VI) (p1:Int):Option Bool:=
 Dl (cntM (va p0 p1) p0.length 0 ()) λa=>
 aft some (λb=>
  some (false:Bool)) a
def nC (p0:Parity) (p1:VI) (a:Int) (s1:Unit):Option (Bool⊕(Unit⊕Unit)):=
 Dl (idx p1 a) λc=>
 Dl (bif (c !=(-1)) then
 Dl (idx p1 a) λe=>
 Dl (idx p0.Arena.Next a) λd=>
 Dl (yP d e) λf=>
 some (!f)
 else
 some false) λb=>
 bif b then
  some (.inl (false:Bool))
 else
  some (.inr (.inr ()))
def qD (p0:Parity) (p1:VI):Option Bool:=
 bif ((p1.length:Int) !=(p0.Prio.length:Int)) then
  some (false:Bool)
 else
  Dl (cntM (nC p0 p1) p1.length 0 ()) λa=>
  aft some (λb=>
   some (true:Bool)) a
def oe (p0:Parity) (p1:VI) (a:Int) (s1:VV):Option ((Parity×Bool)⊕(VV⊕VV)):=
 Dl (idx p0.Arena.Next a) λc=>
 Dl (eI c) λd=>
 Dl (idx p1 a) λe=>
 Dl (bif decide (0<=e) then
  Dl (idx p1 a) λf=>
  some (([f]:VI):VI)
 else
  some (d:VI)) λb=>
 Dl (appS 24 s1 ([b]:VV)) λg=>
 some (.inr (.inr (g:VV)))
def sG (p0:Parity) (p1:VI):Option (Parity×Bool):=
 Dl (i7 p0) λf=>
 Dl (bif (!f) then
 some true
 else
 Dl (qD p0 p1) λg=>
 some (!g)) λc=>
 bif c then
  some (((⟨(⟨([]:VI),([]:VV)⟩:Arena),([]:VI)⟩:Parity):Parity),false)
 else
  Dl (eI p0.Arena.Owner) λa=>
  Dl (eI p0.Prio) λb=>
  Dl (cntM (oe p0 p1) p1.length 0 (((⟨(⟨a,([]:VV)⟩:Arena),b⟩:Parity).Arena).Next:VV)) λd=>
  aft some (λe=>
   some (((⟨(⟨((⟨(⟨a,([]:VV)⟩:Arena),b⟩:Parity).Arena).Owner,e⟩:Arena),(⟨(⟨a,([]:VV)⟩:Arena),b⟩:Parity).Prio⟩:Parity):Parity),true)) d
def py  (a:Int) (s1:VB):Option (VB⊕(VB⊕VB)):=
 Dl (idx s1 a) λc=>
 Dl (setI s1 a true) λb=>
 some (.inr (.inr (b:VB)))
def uZ (p0:Int):Option VB:=
 Dl (mkS 1 p0 (false:Bool)) λc=>
 Dl (rng p0) λ_=>
 Dl (cntM py (Dq (p0-0)) 0 (c:VB)) λa=>
 aft some (λb=>
  some (b:VB)) a
def mh (b:VB) (a:Int) (s1:VI):Option (VI⊕(VI⊕VI)):=
 Dl (idx b a) λc=>
 Dl (ig c) λd=>
 Dl (appS 8 s1 ([(Dr .i64 (1-d))]:VI)) λe=>
 some (.inr (.inr (e:VI)))
def jQ (p0:Parity):Option VI:=
 Dl (pz p0) λe=>
 Dl (uZ (p0.Prio.length:Int)) λd=>
 Dl (kX (2 ^ 64) e d) λa=>
 Dl (cntM (mh a) a.length 0 ([]:VI)) λb=>
 aft some (λc=>
  some (c:VI)) b
def kL (p0:VI) (p1:VI) (a:Int) (s1:Unit):Option (Bool⊕(Unit⊕Unit)):=
 Dl (idx p0 a) λb=>
 Dl (idx p1 a) λc=>
 bif (b !=c) then
  some (.inl (false:Bool))
 else
  some (.inr (.inr ()))
def ni (p0:VI) (p1:VI):Option Bool:=
 bif ((p0.length:Int) !=(p1.length:Int)) then
  some (false:Bool)
 else
  Dl (cntM (kL p0 p1) p0.length 0 ()) λa=>
  aft some (λb=>
   some (true:Bool)) a
def pu (p0:Parity) (p1:VI):Option Bool:=
 Dl (sG p0 p1) λa=>
 Dl (bif a.2 then
 Dl (jQ a.1) λc=>
 Dl (jQ p0) λd=>
 Dl (ni c d) λe=>
 some e
 else
 some false) λb=>
 some (b:Bool)
def mI (p0:VI) (p1:Int) (a:Int) (s1:VB):Option (VB⊕(VB⊕VB)):=
 Dl (idx p0 a) λb=>
 Dl (idx s1 a) λd=>
 Dl (setI s1 a (b==p1)) λc=>
 some (.inr (.inr (c:VB)))
def j8 (p0:VI) (p1:Int):Option VB:=
 Dl (mkS 1 (p0.length:Int) (false:Bool)) λc=>
 Dl (cntM (mI p0 p1) p0.length 0 (c:VB)) λa=>
 aft some (λb=>
  some (b:VB)) a
def nB (p1:VB) (p2:Int) (c:VB) (a:Int) (s1:Unit):Option (Bool⊕(Unit⊕Unit)):=
 Dl (idx p1 a) λd=>
 Dl (bif d then
 Dl (idx c a) λe=>
 some (e !=(p2==0))
 else
 some false) λb=>
 bif b then
  some (.inl (false:Bool))
 else
  some (.inr (.inr ()))
def qC (p0:l7Game) (p1:VB) (p2:Int):Option Bool:=
 Dl (kX (2 ^ 64) p0 p1) λb=>
 Dl (cntM (nB p1 p2 b) p1.length 0 ()) λa=>
 aft some (λc=>
  some (true:Bool)) a
def oz (p0:l7Game) (p1:VB) (p2:Int) (s1:Int×VI):Option ((Int×VI)⊕((Int×VI)⊕(Int×VI))):=
 Dl (idx p0.next p2) λc=>
 bif decide (s1.1<(c.length:Int)) then
  Dl (idx p0.next p2) λd=>
  Dl (idx d s1.1) λa=>
  Dl (idx p1 a) λe=>
  bif (!e) then
   some (.inr (.inr (((Dr .i64 (s1.1+1)):Int),s1.2)))
  else
   Dl (idx s1.2 p2) λi=>
   Dl (setI s1.2 p2 a) λb=>
   Dl (idx p0.owner p2) λf=>
   Dl (qC (⟨p0.owner,p0.prio,p0.next,p0.prev,b⟩:l7Game) p1 f) λg=>
   bif g then
    some (.inl (a,b))
   else
    some (.inr (.inr (((Dr .i64 (s1.1+1)):Int),b)))
 else
  some (.inr (.inl (s1.1,s1.2)))
def sP (p0:l7Game) (p1:VB) (p2:Int):Option (Int×VI):=
 Dl (cd (oz p0 p1 p2) (2 ^ 64) ((0:Int),p0.pick)) λa=>
 aft some (λb=>
  some (((-1):Int),b.2)) a
def mD (p0:Parity) (p1:VI) (c:VI) (a:Int) (s1:VI):Option ((Answer×Bool)⊕(VI⊕VI)):=
 Dl (idx p1 a) λd=>
 Dl (bif (d !=(-1)) then
 Dl (idx c a) λe=>
 Dl (idx p0.Arena.Owner a) λf=>
 some (e !=f)
 else
 some false) λb=>
 bif b then
  some (.inl (((⟨([]:VI),([]:VI)⟩:Answer):Answer),false))
 else
  Dl (idx p1 a) λg=>
  Dl (idx s1 a) λj=>
  Dl (setI s1 a g) λi=>
  some (.inr (.inr (i:VI)))
def mE (p0:Parity) (e:VI) (b:l7Game) (i:VB) (j:VB) (a:Int) (c:VI):Option ((Answer×Bool)⊕(VI⊕VI)):=
 Dl (idx c a) λk=>
 Dl (bif decide (0<=k) then
 some true
 else
 Dl (idx e a) λl=>
 Dl (idx p0.Arena.Owner a) λm=>
 some (l !=m)) λf=>
 bif f then
  some (.inr (.inr (c:VI)))
 else
  Dl (idx e a) λn=>
  Dl (bif (n==1) then
   some (j:VB)
  else
   some (i:VB)) λg=>
  Dl (sP (⟨b.owner,b.prio,b.next,b.prev,c⟩:l7Game) g a) λd=>
  Dl (idx d.2 a) λp=>
  Dl (setI d.2 a d.1) λo=>
  some (.inr (.inr (o:VI)))
def pv (p0:Parity) (p1:VI):Option (Answer×Bool):=
 Dl (pu p0 p1) λg=>
 bif (!g) then
  some (((⟨([]:VI),([]:VI)⟩:Answer):Answer),false)
 else
  Dl (jQ p0) λa=>
  Dl (pz p0) λb=>
  Dl (cntM (mD p0 p1 a) p1.length 0 (b.pick:VI)) λc=>
  aft some (λe=>
   Dl (j8 a 0) λi=>
   Dl (j8 a 1) λj=>
   Dl (cntM (mE p0 a b i j) a.length 0 (e:VI)) λd=>
   aft some (λf=>
    some (((⟨a,f⟩:Answer):Answer),true)) d) c
def sH (p0:Parity):Option (Answer):=
 Dl (i7 p0) λc=>
 bif (!c) then
  some ((⟨([]:VI),([]:VI)⟩:Answer):Answer)
 else
  Dl (sO (p0.Prio.length:Int)) λa=>
  Dl (pv p0 a) λb=>
  some (b.1:Answer)
def nA (p0:Machine) (p1:VI) (p2:Int) (a:Int) (s1:Int):Option (Bool⊕(Int⊕Int)):=
 Dl (idx p0.Next p2) λc=>
 bif decide (s1<(c.length:Int)) then
  Dl (idx p0.Out p2) λd=>
  Dl (idx d s1) λe=>
  Dl (idx p0.Out a) λf=>
  Dl (idx f s1) λg=>
  Dl (bif (e !=g) then
  some true
  else
  Dl (idx p0.Next p2) λi=>
  Dl (idx i s1) λj=>
  Dl (idx p1 j) λk=>
  Dl (idx p0.Next a) λl=>
  Dl (idx l s1) λm=>
  Dl (idx p1 m) λn=>
  some (k !=n)) λb=>
  bif b then
   some (.inl (false:Bool))
  else
   some (.inr (.inr ((Dr .i64 (s1+1)):Int)))
 else
  some (.inr (.inl (s1:Int)))
def qB (p0:Machine) (p1:VI) (p2:Int) (a:Int):Option Bool:=
 Dl (idx p1 p2) λc=>
 Dl (idx p1 a) λd=>
 bif (c !=d) then
  some (false:Bool)
 else
  Dl (cd (nA p0 p1 p2 a) (2 ^ 64) (0:Int)) λb=>
  aft some (λe=>
   some (true:Bool)) b
def mH (p0:Machine) (s1:VI) (b:Int) (a:Int):Option (VI⊕(Int⊕Int)):=
 Dl (qB p0 s1 a b) λc=>
 bif (!c) then
  some (.inr (.inr ((Dr .i64 (a+1)):Int)))
 else
  some (.inr (.inl (a:Int)))
def ki (p0:Machine) (s1:VI) (e:Int) (c:VI):Option (VI⊕(VI⊕VI)):=
 Dl (cd (mH p0 s1 e) (2 ^ 64) (0:Int)) λa=>
 aft (λb=>some (.inl b)) (λd=>
  Dl (appS 8 c ([d]:VI)) λf=>
  some (.inr (.inr (f:VI)))) a
def kh (p0:Machine) (s1:VI):Option (VI⊕(VI⊕VI)):=
 Dl (cntM (ki p0 s1) s1.length 0 ([]:VI)) λb=>
 aft (λc=>some (.inl c)) (λa=>
  Dl (ni a s1) λd=>
  bif d then
   some (.inl (s1:VI))
  else
   some (.inr (.inr (a:VI)))) b
def sM (p0:Machine):Option VI:=
 Dl (mkS 8 (p0.Next.length:Int) (0:Int)) λb=>
 Dl (cd (kh p0) (2 ^ 64) (b:VI)) λa=>
 aft some (λc=>
  none) a
end Go.Proofs.YtleekpaohfpooaaGreat
