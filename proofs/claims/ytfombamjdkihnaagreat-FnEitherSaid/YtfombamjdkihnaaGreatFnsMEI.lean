/- The functions on data. By program. -/
import Derived.Test.YtfombamjdkihnaaGreatTypesEI
import Derived.Test.YtfombamjdkihnaaGreatCmpEI
import Derived.Test.YtfombamjdkihnaaGreatCompEI
set_option linter.unusedVariables false
set_option linter.unusedSimpArgs false
open Int renaming tmod → E0, toNat → ES
open Go.IntKind renaming bits → E1, i64 → E2, u64 → E3, wrap → ET
open Option renaming bind → EO
namespace Go.Proofs.YtfombamjdkihnaaGreat
open Go Go.Wk Go.Proofs
set_option maxRecDepth 100000
set_option maxHeartbeats 1000000
def zp (p0:VI):Option Bool:=
 some (decide (4096<(p0.length:Int)):Bool)
def pv (p0:VI) (b:Int) (a:Int):LO dice Int:=
 EO (idx p0 b) λc=>
 some (.inr (.inr ((ET .u64 ((ET .u64 ((ET .u64 (a * 1099511628211))+(ET .u64 c)))+3)):Int)))
def vJ (p0:VI) (p1:Int):Option (dice):=
 EO (cntM (pv p0) p0.length 0 (ET .u64 ((ET .u64 (p1 * 7919))+(ET .u64 (p0.length:Int))))) λa=>
 aft some (λb=>
  some ((⟨p0,0,b⟩:dice):dice)) a
def cu (p0:dice) (p1:Int):Option (Int×Int×Int):=
 EO (bif decide (p0.i<(p0.b.length:Int)) then
  EO (idx p0.b p0.i) λb=>
  some (((ET .i64 ((ET .i64 (ET .u64 (BitVec.toNat (BitVec.ofInt (E1 E3) (Int.fdiv (ET .u64 ((ET .u64 (p0.h * 6364136223846793005))+1442695040888963407)) (2 ^ (min (ES 33) (E1 E3)))) &&& BitVec.ofInt (E1 E3) 16777215))))+(ET .i64 b))):Int),(ET .i64 (p0.i+1)))
 else
  some (((ET .i64 (ET .u64 (BitVec.toNat (BitVec.ofInt (E1 E3) (Int.fdiv (ET .u64 ((ET .u64 (p0.h * 6364136223846793005))+1442695040888963407)) (2 ^ (min (ES 33) (E1 E3)))) &&& BitVec.ofInt (E1 E3) 16777215)))):Int),p0.i)) λa=>
 EO (nz p1) λ_z55=>
 some (((E0 a.1 p1):Int),a.2,(ET .u64 ((ET .u64 (p0.h * 6364136223846793005))+1442695040888963407)))
def nF (p0:dice) (d:Int) (a:VI×Int×Int):LO (VI×Int×Int) (VI×Int×Int):=
 EO (cu (⟨p0.b,a.2.1,a.2.2⟩:dice) 2) λb=>
 EO (bif (b.1==0) then
  EO (appS 8 a.1 ([d]:VI)) λe=>
  some e
 else
  some a.1) λc=>
 some (.inr (.inr (c,b.2.1,b.2.2)))
def qL (p0:dice) (p1:Int):Option (VI×Int×Int):=
 EO (rng p1) λ_=>
 EO (cntM (nF p0) (ES (p1-0)) 0 (([]:VI),p0.i,p0.h)) λb=>
 aft some (λa=>
  some (a.1,a.2.1,a.2.2)) b
def nE (p0:dice):Option (Clause×Int×Int):=
 EO (cu p0 7) λa=>
 EO (qL (⟨p0.b,a.2.1,a.2.2⟩:dice) 4) λb=>
 EO (bif ((ET .i64 (1+a.1))==2) then
 some true
 else
 some ((ET .i64 (1+a.1))==3)) λe=>
 EO (bif e then
 some true
 else
 some ((ET .i64 (1+a.1))==7)) λf=>
 EO (bif f then
  EO (qL (⟨p0.b,b.2.1,b.2.2⟩:dice) 4) λd=>
  some (d.2.1,d.2.2,d.1)
 else
  some (b.2.1,b.2.2,([]:VI))) λc=>
 some (((⟨(ET .i64 (1+a.1)),b.1,c.2.2⟩:Clause):Clause),c.1,c.2.1)
def iM (p0:dice) (a:VC×Int×Int×Int):LO (VC×Int×Int) (VC×Int×Int×Int):=
 bif decide (0<a.2.1) then
  EO (nE (⟨p0.b,a.2.2.1,a.2.2.2⟩:dice)) λb=>
  EO (appS 56 a.1 ([b.1]:VC)) λc=>
  some (.inr (.inr (c,(ET .i64 (a.2.1-1)),b.2.1,b.2.2)))
 else
  some (.inr (.inl (a.1,a.2.1,a.2.2.1,a.2.2.2)))
def lY (p0:dice) (p1:Int):Option (VC×Int×Int):=
 EO (cu p0 (ET .i64 (p1+1))) λb=>
 EO (bQ (iM p0) (2 ^ 64) (([]:VC),b.1,b.2.1,b.2.2)) λc=>
 aft some (λa=>
  some (a.1,a.2.2.1,a.2.2.2)) c
def kh (p0:Sig):Option Bool:=
 EO (bif decide (1<=p0.In) then
 some (decide (p0.In<=2))
 else
 some false) λa=>
 EO (bif a then
 some (decide (1<=p0.Out))
 else
 some false) λb=>
 EO (bif b then
 some (decide (p0.Out<=2))
 else
 some false) λc=>
 some c
def dX (p0:Sig):Option Int:=
 EO (nn (ET .i64 (p0.In+p0.Out))) λ_z8=>
 some ((ET .i64 (1 * 2 ^ (min (ES (ET .i64 (p0.In+p0.Out))) (E1 E2)))):Int)
def nv (p0:VI) (p1:Int) (a:Int) (g:Unit):LO Bool Unit:=
 EO (idx p0 a) λb=>
 EO (bif decide (b<0) then
 some true
 else
 some (decide (p1<=b))) λc=>
 EO (bif c then
 some true
 else
 EO (bif decide (0<a) then
 EO (idx p0 (ET .i64 (a-1))) λf=>
 some (decide (b<=f))
 else
 some false) λd=>
 some d) λe=>
 bif e then
  some (.inl false)
 else
  some (.inr (.inr ()))
def lQ (p0:VI) (p1:Int):Option Bool:=
 EO (cntM (nv p0 p1) p0.length 0 ()) λa=>
 aft some (λb=>
  some true) a
def oA (p0:Int):Option Bool:=
 EO (bif (p0==2) then
 some true
 else
 some (p0==3)) λb=>
 EO (bif b then
 some true
 else
 some (p0==7)) λa=>
 some a
def nr (p0:Sig) (p1:Clause):Option Bool:=
 EO (bif decide (p1.Kind<1) then
 some true
 else
 some (decide (7<p1.Kind))) λa=>
 EO (bif a then
 some true
 else
 EO (dX p0) λe=>
 EO (lQ p1.A e) λf=>
 some (!f)) λb=>
 EO (bif b then
 some true
 else
 EO (dX p0) λg=>
 EO (lQ p1.B g) λi=>
 some (!i)) λc=>
 bif c then
  some false
 else
  EO (oA p1.Kind) λj=>
  EO (bif j then
  some true
  else
  some ((p1.B.length:Int)==0)) λd=>
  some d
def fL (p0:Clause) (c0:Sig):Option Bool:=
 EO (nr c0 p0) λa=>
 some (!a)
def bZ (p0:VC) (c1_0:Sig) (a:Int) (d:Unit):LO Int Unit:=
 EO (idx p0 a) λb=>
 EO (fL b c1_0) λc=>
 bif c then
  some (.inl a)
 else
  some (.inr (.inr ()))
def ca (p0:VC) (c1_0:Sig):Option Int:=
 EO (cntM (bZ p0 c1_0) p0.length 0 ()) λa=>
 aft some (λb=>
  some ((-1):Int)) a
def bY (p0:VC) (c1_0:Sig):Option Bool:=
 EO (ca p0 c1_0) λa=>
 some (decide (0<=a):Bool)
def kc (p0:Sig) (p1:VC):Option Bool:=
 EO (bif decide ((p1.length:Int)<=3) then
 EO (bY p1 p0) λb=>
 some (!b)
 else
 some false) λa=>
 some a
def dM (p0:VI) (p1:Int) (a:Int) (c:Unit):LO Int Unit:=
 EO (idx p0 a) λb=>
 bif (p1==b) then
  some (.inl a)
 else
  some (.inr (.inr ()))
def cH (p0:VI) (p1:Int):Option Int:=
 EO (cntM (dM p0 p1) p0.length 0 ()) λa=>
 aft some (λb=>
  some ((-1):Int)) a
def bP (p0:VI) (p1:Int):Option Bool:=
 EO (cH p0 p1) λa=>
 some (decide (0<=a):Bool)
def jG (p0:Int) (p1:Int) (p2:Bool) (c:Bool):Option Int:=
 EO (bif p2 then
  some (1:Int)
 else
  some (0:Int)) λa=>
 EO (bif c then
  some (true,(1:Int))
 else
  some (false,(0:Int))) λb=>
 bif (p0==1) then
  some ((if p1<(ET .i64 (1-a)) then(ET .i64 (1-a)) else p1):Int)
 else
  bif (p0==2) then
   EO (bif (p1==2) then
   some true
   else
   EO (bif (p1==1) then
   some (!b.1)
   else
   some false) λd=>
   some d) λe=>
   bif e then
    some (2:Int)
   else
    some a
  else
   bif (p0==3) then
    bif b.1 then
     some (0:Int)
    else
     some ((if p1<a then a else p1):Int)
   else
    bif (p0==4) then
     some a
    else
     bif (p0==5) then
      some (ET .i64 (1-a))
     else
      bif (p0==6) then
       some ((if p1<a then a else p1):Int)
      else
       some (ET .i64 ((ET .i64 (2 * a))+b.2))
def fZ (p1:Clause) (c:Int) (a:Int) (b:VI):LO Det VI:=
 EO (bP p1.A a) λd=>
 EO (bP p1.B a) λe=>
 EO (jG p1.Kind c d e) λf=>
 EO (appS 8 b ([f]:VI)) λg=>
 some (.inr (.inr g))
def fY (p0:Sig) (p1:Clause) (f:Int) (e:VV):LO Det VV:=
 EO (dX p0) λa=>
 EO (rng a) λ_=>
 EO (cntM (fZ p1 f) (ES (a-0)) 0 ([]:VI)) λb=>
 aft (λc=>some (.inl c)) (λd=>
  EO (appS 24 e ([d]:VV)) λg=>
  some (.inr (.inr g))) b
def lV (p0:Sig) (p1:Clause):Option (Det):=
 EO (bif (p1.Kind==1) then
  some true
 else
  some ((p1.Kind==5):Bool)) λf=>
 EO (bif f then
  some ((2:Int),(([1]:VI):VI),([]:VI))
 else
  EO (bif (p1.Kind==2) then
   some ((3:Int),(([2]:VI):VI),([]:VI))
  else
   EO (bif (p1.Kind==3) then
    some ((2:Int),(([1]:VI):VI),(([0]:VI):VI))
   else
    EO (bif (p1.Kind==4) then
     some ((2:Int),(([0,1]:VI):VI),(([1]:VI):VI))
    else
     EO (bif (p1.Kind==6) then
      some ((2:Int),(([0]:VI):VI),([]:VI))
     else
      some ((4:Int),(([2,3]:VI):VI),(([1,3]:VI):VI))) λe=>
     some (e.1,e.2.1,e.2.2)) λd=>
    some (d.1,d.2.1,d.2.2)) λc=>
   some (c.1,c.2.1,c.2.2)) λb=>
  some (b.1,b.2.1,b.2.2)) λa=>
 EO (rng a.1) λ_=>
 EO (cntM (fY p0 p1) (ES (a.1-0)) 0 ([]:VV)) λg=>
 aft some (λi=>
  some ((⟨i,([(⟨a.2.1,a.2.2⟩:Pair)]:VP)⟩:Det):Det)) g
def cR (p0:(List (Int×Int))) (p1:(Int×Int)) (a:Int) (c:Unit):LO Int Unit:=
 EO (idx p0 a) λb=>
 bif ((p1.1==b.1)&&(p1.2==b.2)) then
  some (.inl a)
 else
  some (.inr (.inr ()))
def df (p0:(List (Int×Int))) (p1:(Int×Int)):Option Int:=
 EO (cntM (cR p0 p1) p0.length 0 ()) λa=>
 aft some (λb=>
  some ((-1):Int)) a
def fW (p1:Det) (g:(List (Int×Int))×Int×VV) (i:VI) (c:Int) (a:(List (Int×Int))×VI):LO (Det×Bool) ((List (Int×Int))×VI):=
 EO (idx i c) λd=>
 EO (idx a.1 g.2.1) λj=>
 EO (idx p1.Next j.2) λk=>
 EO (idx k c) λe=>
 EO (df a.1 (d,e)) λf=>
 EO (bif decide (f<0) then
  EO (appS 16 a.1 ([(d,e)]:List (Int×Int))) λl=>
  some (l,((a.1.length:Int):Int))
 else
  some (a.1,f)) λb=>
 EO (appS 8 a.2 ([b.2]:VI)) λm=>
 some (.inr (.inr (b.1,m)))
def iG (p0:Det) (p1:Det) (a:(List (Int×Int))×Int×VV):LO (Det×Bool) ((List (Int×Int))×Int×VV):=
 bif decide (a.2.1<(a.1.length:Int)) then
  EO (idx a.1 a.2.1) λf=>
  EO (idx p0.Next f.1) λc=>
  EO (cntM (fW p1 a c) c.length 0 (a.1,([]:VI))) λd=>
  aft (λe=>some (.inl e)) (λb=>
   bif decide (48<(b.1.length:Int)) then
    some (.inl (((⟨([]:VV),([]:VP)⟩:Det):Det),false))
   else
    EO (appS 24 a.2.2 ([b.2]:VV)) λg=>
    some (.inr (.inr (b.1,(ET .i64 (a.2.1+1)),g)))) d
 else
  some (.inr (.inl (a.1,a.2.1,a.2.2)))
def iH (i:(List (Int×Int))×Int×VV) (d:Int) (e:Pair) (c:Int) (a:VI×VI):LO (Det×Bool) (VI×VI):=
 EO (idx i.1 c) λb=>
 EO (idx ([b.1,b.2]:VI) d) λj=>
 EO (bP e.Ask j) λk=>
 EO (bif k then
  EO (appS 8 a.1 ([c]:VI)) λl=>
  some l
 else
  some a.1) λf=>
 EO (idx ([b.1,b.2]:VI) d) λm=>
 EO (bP e.Give m) λn=>
 EO (bif n then
  EO (appS 8 a.2 ([c]:VI)) λo=>
  some o
 else
  some a.2) λg=>
 some (.inr (.inr (f,g)))
def d7 (b:(List (Int×Int))×Int×VV) (g:Int) (i:Det) (f:Int) (e:VP):LO (Det×Bool) VP:=
 EO (idx i.Pairs f) λj=>
 EO (cntM (iH b g j) b.1.length 0 (([]:VI),([]:VI))) λc=>
 aft (λd=>some (.inl d)) (λa=>
  EO (appS 48 e ([(⟨a.1,a.2⟩:Pair)]:VP)) λk=>
  some (.inr (.inr k))) c
def dr (p0:Det) (p1:Det) (f:(List (Int×Int))×Int×VV) (a:Int) (g:VP):LO (Det×Bool) VP:=
 EO (idx ([p0,p1]:List Det) a) λb=>
 EO (cntM (d7 f a b) b.Pairs.length 0 g) λc=>
 aft (λd=>some (.inl d)) (λe=>
  some (.inr (.inr e))) c
def j5 (p0:Det) (p1:Det):Option (Det×Bool):=
 bif decide (4<(ET .i64 ((p0.Pairs.length:Int)+(p1.Pairs.length:Int)))) then
  some (((⟨([]:VV),([]:VP)⟩:Det):Det),false)
 else
  EO (bQ (iG p0 p1) (2 ^ 64) ((([(0,0)]:List (Int×Int)):(List (Int×Int))),(0:Int),([]:VV))) λb=>
  aft some (λa=>
   EO (cntM (dr p0 p1 a) ([p0,p1]:List Det).length 0 ([]:VP)) λc=>
   aft some (λd=>
    some (((⟨a.2.2,d⟩:Det):Det),true)) c) b
def fK (p0:Sig) (p1:VC) (c:Int) (b:VV×VP):LO (Det×Bool) (VV×VP):=
 EO (idx p1 c) λd=>
 EO (lV p0 d) λe=>
 EO (j5 (⟨b.1,b.2⟩:Det) e) λa=>
 bif (!a.2) then
  some (.inl (((⟨([]:VV),([]:VP)⟩:Det):Det),false))
 else
  some (.inr (.inr (a.1.Next,a.1.Pairs)))
def c8 (p0:Sig) (p1:VC):Option (Det×Bool):=
 EO (kh p0) λd=>
 EO (bif (!d) then
 some true
 else
 EO (kc p0 p1) λe=>
 some (!e)) λb=>
 bif b then
  some (((⟨([]:VV),([]:VP)⟩:Det):Det),false)
 else
  EO (dX p0) λf=>
  EO (mkS 8 f (0:Int)) λg=>
  EO (cntM (fK p0 p1) p1.length 0 ((([g]:VV):VV),([]:VP))) λc=>
  aft some (λa=>
   some (((⟨a.1,a.2⟩:Det):Det),true)) c
def cJ (p0:Sig):Option Int:=
 EO (nn p0.In) λ_z5=>
 some (ET .i64 (1 * 2 ^ (min (ES p0.In) (E1 E2))))
def cq (p0:VI):Option VI:=
 if 0<p0.length/\p0.length<4611686018427387904 then some (p0.mergeSort λa b=>decide (a<=b)) else if p0.length=0 then some p0 else none
def dt (p0:VI):Option VI:=
 if 0<p0.length/\p0.length<4611686018427387904 then some (Go.Lib.compact p0) else none
def qc (p0:Pair):Option (Pair):=
 EO (appS 8 ([]:VI) p0.Ask) λb=>
 EO (appS 8 ([]:VI) p0.Give) λa=>
 some ((⟨b,a⟩:Pair):Pair)
def fP (p1:Det) (d:Int) (b:Int) (c:Int) (a:VI):LO (Arena×VP) VI:=
 EO (appS 8 a ([(ET .i64 ((ET .i64 ((p1.Next.length:Int)+(ET .i64 (b * d))))+c))]:VI)) λe=>
 some (.inr (.inr e))
def fO (p1:Det) (a:Int) (f:Int) (b:VI×VV):LO (Arena×VP) (VI×VV):=
 EO (rng a) λ_=>
 EO (cntM (fP p1 a f) (ES (a-0)) 0 ([]:VI)) λc=>
 aft (λd=>some (.inl d)) (λe=>
  EO (appS 8 b.1 ([1]:VI)) λg=>
  EO (appS 24 b.2 ([e]:VV)) λi=>
  some (.inr (.inr (g,i)))) c
def fS (p1:Det) (e:Int) (b:Int) (c:Int) (d:Int) (a:VI):LO (Arena×VP) VI:=
 EO (idx p1.Next b) λf=>
 EO (idx f (ET .i64 ((ET .i64 (d * e))+c))) λg=>
 EO (appS 8 a ([g]:VI)) λi=>
 some (.inr (.inr i))
def fR (p0:Sig) (p1:Det) (i:Int) (e:Int) (f:Int) (a:VI×VV):LO (Arena×VP) (VI×VV):=
 EO (nn p0.Out) λ_z68=>
 EO (rng (ET .i64 (1 * 2 ^ (min (ES p0.Out) (E1 E2))))) λ_=>
 EO (cntM (fS p1 i e f) (ES ((ET .i64 (1 * 2 ^ (min (ES p0.Out) (E1 E2))))-0)) 0 ([]:VI)) λb=>
 aft (λc=>some (.inl c)) (λd=>
  EO (cq d) λj=>
  EO (appS 8 a.1 ([0]:VI)) λk=>
  EO (dt j) λl=>
  EO (appS 24 a.2 ([l]:VV)) λg=>
  some (.inr (.inr (k,g)))) b
def fQ (p0:Sig) (p1:Det) (a:Int) (f:Int) (c:VI×VV):LO (Arena×VP) (VI×VV):=
 EO (rng a) λ_=>
 EO (cntM (fR p0 p1 a f) (ES (a-0)) 0 (c.1,c.2)) λd=>
 aft (λe=>some (.inl e)) (λb=>
  some (.inr (.inr (b.1,b.2)))) d
def fl (p1:Det) (b:Int) (a:VP):LO (Arena×VP) VP:=
 EO (idx p1.Pairs b) λc=>
 EO (qc c) λd=>
 EO (appS 48 a ([d]:VP)) λe=>
 some (.inr (.inr e))
def eW (p0:Sig) (p1:Det):Option (Arena×VP):=
 EO (cJ p0) λc=>
 EO (cntM (fO p1 c) p1.Next.length 0 (([]:VI),([]:VV))) λe=>
 aft some (λa=>
  EO (cntM (fQ p0 p1 c) p1.Next.length 0 (a.1,a.2)) λf=>
  aft some (λb=>
   EO (cntM (fl p1) p1.Pairs.length 0 ([]:VP)) λd=>
   aft some (λg=>
    some (((⟨b.1,b.2⟩:Arena):Arena),g)) d) f) e
def g6 (p0:VP) (p1:VI) (p2:Int) (d:Int) (a:VI×VI):LO VI (VI×VI):=
 EO (idx p1 d) λb=>
 EO (idx p0 b) λe=>
 EO (bP e.Give p2) λf=>
 EO (bif f then
  EO (appS 8 a.1 ([b]:VI)) λg=>
  some (g,a.2)
 else
  EO (appS 8 a.2 ([b]:VI)) λi=>
  some (a.1,i)) λc=>
 some (.inr (.inr (c.1,c.2)))
def kl (p0:VP) (p1:VI) (p2:Int):Option VI:=
 EO (cntM (g6 p0 p1 p2) p1.length 0 (([]:VI),([]:VI))) λb=>
 aft some (λa=>
  EO (appS 8 a.1 a.2) λc=>
  some c) b
def kp (p0:Place) (c0:VP):Option VI:=
 EO (kl c0 p0.Record p0.At) λa=>
 some a
def dL (p0:VI) (p1:VI) (a:Int) (d:Unit):LO Bool Unit:=
 EO (idx p0 a) λb=>
 EO (idx p1 a) λc=>
 bif (b !=c) then
  some (.inl false)
 else
  some (.inr (.inr ()))
def ez (p0:VI) (p1:VI):Option Bool:=
 bif ((p0.length:Int) !=(p1.length:Int)) then
  some false
 else
  EO (cntM (dL p0 p1) p0.length 0 ()) λa=>
  aft some (λb=>
   some true) a
def lW (p0:Place) (c0:Int) (c1:VI):Option Bool:=
 EO (bif (p0.At==c0) then
 EO (ez p0.Record c1) λb=>
 some b
 else
 some false) λa=>
 some a
def cc (p0:VL) (c1_0:Int) (b:VI) (a:Int) (e:Unit):LO Int Unit:=
 EO (idx p0 a) λc=>
 EO (lW c c1_0 b) λd=>
 bif d then
  some (.inl a)
 else
  some (.inr (.inr ()))
def cj (p0:VL) (c1_0:Int) (a:VI):Option Int:=
 EO (cntM (cc p0 c1_0 a) p0.length 0 ()) λb=>
 aft some (λc=>
  some ((-1):Int)) b
def pq (p0:VL) (p1:Int) (p2:VI):Option Int:=
 EO (cj p0 p1 p2) λa=>
 some a
def g7 (p0:VP) (p1:VI) (p2:Int) (a:Int) (b:Int×Int):LO Int (Int×Int):=
 EO (idx p1 a) λc=>
 EO (idx p0 c) λf=>
 EO (bP f.Ask p2) λg=>
 EO (bif g then
  some a
 else
  some b.1) λd=>
 EO (idx p0 c) λi=>
 EO (bP i.Give p2) λj=>
 EO (bif j then
  some a
 else
  some b.2) λe=>
 some (.inr (.inr (d,e)))
def ko (p0:VP) (p1:VI) (p2:Int):Option Int:=
 EO (cntM (g7 p0 p1 p2) p1.length 0 (((-1):Int),((-1):Int))) λc=>
 aft some (λa=>
  EO (bif decide (a.1<0) then
  some (decide (a.2<0))
  else
  some false) λb=>
  bif b then
   some (0:Int)
  else
   bif decide (a.2<a.1) then
    some (ET .i64 ((ET .i64 (2 * a.1))+1))
   else
    some (ET .i64 ((ET .i64 (2 * a.2))+2))) c
def kq (p0:Place) (c0:VP):Option Int:=
 EO (ko c0 p0.Record p0.At) λa=>
 some a
def nB (p0:Parity) (p1:Int) (p2:Int) (a:VI):Option (Parity):=
 EO (appS 8 p0.Arena.Owner ([p1]:VI)) λb=>
 EO (appS 24 p0.Arena.Next ([a]:VV)) λc=>
 EO (appS 8 p0.Prio ([p2]:VI)) λd=>
 some ((⟨(⟨b,c⟩:Arena),d⟩:Parity):Parity)
def bU (c:VI) (g:VI) (f:Int) (a:VL×VI):LO (Parity×VL×Bool) (VL×VI):=
 EO (idx g f) λd=>
 EO (pq a.1 d c) λe=>
 EO (bif decide (e<0) then
  EO (appS 8 ([]:VI) c) λi=>
  EO (appS 32 a.1 ([(⟨d,i⟩:Place)]:VL)) λj=>
  some (j,((a.1.length:Int):Int))
 else
  some (a.1,e)) λb=>
 EO (appS 8 a.2 ([b.2]:VI)) λk=>
 some (.inr (.inr (b.1,k)))
def bS (p0:Arena) (e:VP) (a:VL×Int×VI×VV×VI):LO (Parity×VL×Bool) (VL×Int×VI×VV×VI):=
 bif decide (a.2.1<(a.1.length:Int)) then
  EO (idx a.1 a.2.1) λb=>
  EO (kp b e) λj=>
  EO (idx p0.Next b.At) λf=>
  EO (cntM (bU j f) f.length 0 (a.1,([]:VI))) λg=>
  aft (λi=>some (.inl i)) (λc=>
   bif decide (256<(c.1.length:Int)) then
    some (.inl (((⟨(⟨([]:VI),([]:VV)⟩:Arena),([]:VI)⟩:Parity):Parity),([]:VL),false))
   else
    EO (cq c.2) λk=>
    EO (idx p0.Owner b.At) λl=>
    EO (kq b e) λm=>
    EO (nB (⟨(⟨a.2.2.1,a.2.2.2.1⟩:Arena),a.2.2.2.2⟩:Parity) l m k) λd=>
    some (.inr (.inr (c.1,(ET .i64 (a.2.1+1)),d.Arena.Owner,d.Arena.Next,d.Prio)))) g
 else
  some (.inr (.inl (a.1,a.2.1,a.2.2.1,a.2.2.2.1,a.2.2.2.2)))
def cA (p0:Arena) (p1:Place) (b:VP):Option (Parity×VL×Bool):=
 EO (bQ (bS p0 b) (2 ^ 64) ((([p1]:VL):VL),(0:Int),([]:VI),([]:VV),([]:VI))) λc=>
 aft some (λa=>
  some (((⟨(⟨a.2.2.1,a.2.2.2.1⟩:Arena),a.2.2.2.2⟩:Parity):Parity),a.1,true)) c
def mC  (b:Int) (a:VI):LO (Parity×VL×Bool) VI:=
 EO (appS 8 a ([b]:VI)) λc=>
 some (.inr (.inr c))
def d8 (p0:Arena) (p1:VP) (p2:Int):Option (Parity×VL×Bool):=
 EO (cntM mC p1.length 0 ([]:VI)) λb=>
 aft some (λc=>
  EO (cA p0 (⟨p2,c⟩:Place) p1) λa=>
  some (a.1,a.2.1,a.2.2)) b
def oG (p0:Arena):Option Int:=
 some ((p0.Owner.length:Int):Int)
def ji  (b:Int) (a:VI):LO VI VI:=
 EO (appS 8 a ([b]:VI)) λc=>
 some (.inr (.inr c))
def pl (p0:Int):Option VI:=
 EO (bif decide (p0<0) then
 some true
 else
 some (decide (256<p0))) λa=>
 bif a then
  some ([]:VI)
 else
  EO (rng p0) λ_=>
  EO (cntM ji (ES (p0-0)) 0 ([]:VI)) λb=>
  aft some (λc=>
   some c) b
def sF (p0:Arena):Option VI:=
 EO (oG p0) λa=>
 EO (pl a) λb=>
 some b
def kn (c:Int) (e:VI) (d:Int) (a:VV):LO VV VV:=
 EO (idx e d) λb=>
 EO (idx a b) λf=>
 EO (appS 8 f ([c]:VI)) λg=>
 EO (idx a b) λj=>
 EO (setI a b g) λi=>
 some (.inr (.inr i))
def km (p0:Arena) (a:Int) (e:VV):LO VV VV:=
 EO (idx p0.Next a) λb=>
 EO (cntM (kn a b) b.length 0 e) λc=>
 aft (λd=>some (.inl d)) (λf=>
  some (.inr (.inr f))) c
def pt (p0:Arena):Option VV:=
 EO (mkS 24 (p0.Owner.length:Int) ([]:VI)) λc=>
 EO (cntM (km p0) p0.Next.length 0 c) λa=>
 aft some (λb=>
  some b) a
def lU (p1:VI) (c:Int) (a:VB):LO VB VB:=
 EO (idx p1 c) λb=>
 EO (idx a b) λe=>
 EO (setI a b true) λd=>
 some (.inr (.inr d))
def qF (p0:Arena) (p1:VI):Option VB:=
 EO (mkS 1 (p0.Owner.length:Int) false) λc=>
 EO (cntM (lU p1) p1.length 0 c) λa=>
 aft some (λb=>
  some b) a
def lT (p0:VB) (b:Int) (a:VI):LO VI VI:=
 EO (idx p0 b) λd=>
 EO (bif d then
  EO (appS 8 a ([b]:VI)) λe=>
  some e
 else
  some a) λc=>
 some (.inr (.inr c))
def iI (p0:VB):Option VI:=
 EO (cntM (lT p0) p0.length 0 ([]:VI)) λa=>
 aft some (λb=>
  some b) a
def nA (p0:Parity) (p1:VI) (c:Int) (a:Int):LO Int Int:=
 EO (idx p1 c) λd=>
 EO (idx p0.Prio d) λb=>
 some (.inr (.inr ((if a<b then b else a):Int)))
def sG (p0:Parity) (p1:VI):Option Int:=
 EO (cntM (nA p0 p1) p1.length 0 ((-1):Int)) λa=>
 aft some (λb=>
  some b) a
def dz (p2:VB) (b:Int) (e:VI) (d:Int) (a:VI):LO VB VI:=
 EO (idx e d) λf=>
 EO (idx p2 f) λg=>
 EO (bif g then
  EO (idx a b) λi=>
  EO (idx a b) λk=>
  EO (setI a b (ET .i64 (i+1))) λj=>
  some j
 else
  some a) λc=>
 some (.inr (.inr c))
def eI (p0:solver) (p1:Int) (p2:VB) (o:VI) (l:Int) (a:VI×VB×VI):LO VB (VI×VB×VI):=
 EO (idx o l) λb=>
 EO (idx a.2.1 b) λp=>
 EO (bif p then
 some true
 else
 EO (idx p2 b) λq=>
 some (!q)) λi=>
 bif i then
  some (.inr (.inr (a.1,a.2.1,a.2.2)))
 else
  EO (idx p0.game.Arena.Owner b) λr=>
  bif (r !=p1) then
   EO (idx a.2.2 b) λs=>
   EO (bif (s==0) then
    EO (idx p0.game.Arena.Next b) λg=>
    EO (cntM (dz p2 b g) g.length 0 a.2.2) λj=>
    aft (λu=>none) (λk=>
     some k) j
   else
    some a.2.2) λc=>
   EO (idx c b) λt=>
   EO (idx c b) λv=>
   EO (setI c b (ET .i64 (t-1))) λe=>
   EO (idx e b) λm=>
   bif decide (0<m) then
    some (.inr (.inr (a.1,a.2.1,e)))
   else
    EO (idx a.2.1 b) λn=>
    EO (setI a.2.1 b true) λf=>
    EO (appS 8 a.1 ([b]:VI)) λd=>
    some (.inr (.inr (d,f,e)))
  else
   EO (idx a.2.1 b) λn=>
   EO (setI a.2.1 b true) λf=>
   EO (appS 8 a.1 ([b]:VI)) λd=>
   some (.inr (.inr (d,f,a.2.2)))
def gz (p0:solver) (p1:Int) (p2:VB) (a:VI×VB×VI):LO VB (VI×VB×VI):=
 bif decide (0<(a.1.length:Int)) then
  EO (idx a.1 0) λf=>
  EO (subS a.1 1 (a.1.length:Int)) λg=>
  EO (idx p0.preds f) λc=>
  EO (cntM (eI p0 p1 p2 c) c.length 0 (g,a.2.1,a.2.2)) λd=>
  aft (λe=>some (.inl e)) (λb=>
   some (.inr (.inr (b.1,b.2.1,b.2.2)))) d
 else
  some (.inr (.inl (a.1,a.2.1,a.2.2)))
def gP (p0:solver) (p1:Int) (p2:VB) (a:VB):Option VB:=
 EO (appS 1 ([]:VB) a) λd=>
 EO (mkS 8 (p2.length:Int) (0:Int)) λe=>
 EO (iI a) λf=>
 EO (bQ (gz p0 p1 p2) (2 ^ 64) (f,d,e)) λb=>
 aft some (λc=>
  some c.2.1) b
def kv (p0:VB) (p1:VB) (a:Int) (b:VB):LO VB VB:=
 EO (idx p0 a) λd=>
 EO (bif d then
 EO (idx p1 a) λe=>
 some (!e)
 else
 some false) λc=>
 EO (idx b a) λg=>
 EO (setI b a c) λf=>
 some (.inr (.inr f))
def gA (p0:VB) (p1:VB):Option VB:=
 EO (mkS 1 (p0.length:Int) false) λc=>
 EO (cntM (kv p0 p1) p0.length 0 c) λa=>
 aft some (λb=>
  some b) a
def dw (p0:VB) (p1:Bool) (a:Int) (c:Unit):LO Int Unit:=
 EO (idx p0 a) λb=>
 bif (p1==b) then
  some (.inl a)
 else
  some (.inr (.inr ()))
def fh (p0:VB) (p1:Bool):Option Int:=
 EO (cntM (dw p0 p1) p0.length 0 ()) λa=>
 aft some (λb=>
  some ((-1):Int)) a
def cY (p0:VB) (p1:Bool):Option Bool:=
 EO (fh p0 p1) λa=>
 some (decide (0<=a):Bool)
def fp (p0:solver) (e:Int) (d:VB) (a:Int) (b:VB):LO (VB×Int) VB:=
 EO (idx d a) λf=>
 EO (bif f then
 EO (idx p0.game.Prio a) λg=>
 some (g==e)
 else
 some false) λc=>
 EO (idx b a) λj=>
 EO (setI b a c) λi=>
 some (.inr (.inr i))
def fo (rc:solver->VB->Option (VB×Int)) (p0:solver) (p1:VB) (b:Int) (a:VB):LO (VB×Int) VB:=
 EO (mkS 1 (p1.length:Int) false) λf=>
 EO (cntM (fp p0 b a) f.length 0 f) λi=>
 aft (λj=>some (.inl j)) (λk=>
  EO (gP p0 (E0 b 2) a k) λl=>
  EO (gA a l) λg=>
  EO (rc p0 g) λc=>
  EO (bif (c.2==(E0 b 2)) then
   EO (gA g c.1) λm=>
   some m
  else
   some c.1) λe=>
  EO (cY e true) λn=>
  bif (!n) then
   some (.inl (a,((E0 b 2):Int)))
  else
   EO (gP p0 (ET .i64 (1-(E0 b 2))) a e) λo=>
   EO (gA a o) λd=>
   EO (cY d true) λp=>
   bif (!p) then
    some (.inl (d,((E0 b 2):Int)))
   else
    some (.inr (.inr d))) i
def d9 (rc:solver->VB->Option (VB×Int)) (p0:solver) (p1:VB):Option (VB×Int):=
 EO (iI p1) λa=>
 bif ((a.length:Int)==0) then
  some (p1,(0:Int))
 else
  EO (sG p0.game a) λc=>
  EO (appS 1 ([]:VB) p1) λd=>
  EO (bQ (fo rc p0 p1 c) (2 ^ 64) d) λb=>
  aft some (λe=>
   none) b
def dT:Nat->solver->VB->Option (VB×Int)
 |0=>λ_ _=>none
 |n+1=>d9 (dT n)
def qI (p0:Parity) (p1:VI):Option (VI×VI):=
 EO (pt p0.Arena) λc=>
 EO (qF p0.Arena p1) λb=>
 EO (dT (2 ^ 64) (⟨p0,c⟩:solver) b) λa=>
 bif (a.2==0) then
  EO (iI a.1) λd=>
  EO (gA b a.1) λe=>
  EO (iI e) λf=>
  some (d,f)
 else
  EO (gA b a.1) λg=>
  EO (iI g) λi=>
  EO (iI a.1) λj=>
  some (i,j)
def kr (d:VI×VI) (c:Int) (a:VI):LO VI VI:=
 EO (idx d.2 c) λb=>
 EO (idx a b) λf=>
 EO (setI a b 1) λe=>
 some (.inr (.inr e))
def eJ (p0:Parity):Option VI:=
 EO (mkS 8 (p0.Prio.length:Int) (0:Int)) λd=>
 EO (sF p0.Arena) λe=>
 EO (qI p0 e) λa=>
 EO (cntM (kr a) a.2.length 0 d) λb=>
 aft some (λc=>
  some c) b
def kb (p0:Arena) (a:Int) (k:Unit):LO Bool Unit:=
 EO (idx p0.Next a) λb=>
 EO (idx p0.Owner a) λg=>
 EO (bif decide (g<0) then
 some true
 else
 EO (idx p0.Owner a) λi=>
 some (decide (1<i))) λc=>
 EO (bif c then
 some true
 else
 some (decide ((b.length:Int)<1))) λd=>
 EO (bif d then
 some true
 else
 some (decide (16<(b.length:Int)))) λe=>
 EO (bif e then
 some true
 else
 EO (lQ b (p0.Owner.length:Int)) λj=>
 some (!j)) λf=>
 bif f then
  some (.inl false)
 else
  some (.inr (.inr ()))
def mO (p0:Arena):Option Bool:=
 EO (bif decide ((p0.Owner.length:Int)<1) then
 some true
 else
 some (decide (256<(p0.Owner.length:Int)))) λa=>
 EO (bif a then
 some true
 else
 some ((p0.Next.length:Int) !=(p0.Owner.length:Int))) λb=>
 bif b then
  some false
 else
  EO (cntM (kb p0) p0.Next.length 0 ()) λc=>
  aft some (λd=>
   some true) c
def jA (p0:Parity) (c:Int) (d:Unit):LO Bool Unit:=
 EO (idx p0.Prio c) λa=>
 EO (bif decide (a<0) then
 some true
 else
 some (decide (40<a))) λb=>
 bif b then
  some (.inl false)
 else
  some (.inr (.inr ()))
def np (p0:Parity):Option Bool:=
 EO (mO p0.Arena) λc=>
 EO (bif (!c) then
 some true
 else
 some ((p0.Prio.length:Int) !=(p0.Arena.Owner.length:Int))) λa=>
 bif a then
  some false
 else
  EO (cntM (jA p0) p0.Prio.length 0 ()) λb=>
  aft some (λd=>
   some true) b
def oF  (b:Int) (a:VI):LO VI VI:=
 EO (idx a b) λd=>
 EO (setI a b (-1)) λc=>
 some (.inr (.inr c))
def qG (p0:Arena):Option VI:=
 EO (mkS 8 (p0.Owner.length:Int) (0:Int)) λa=>
 EO (cntM oF a.length 0 a) λb=>
 aft some (λc=>
  some c) b
def jB (p0:Answer) (p1:Int) (b:Int) (a:VI):LO VI VI:=
 EO (idx p0.Won b) λd=>
 EO (bif (d==p1) then
  EO (appS 8 a ([b]:VI)) λe=>
  some e
 else
  some a) λc=>
 some (.inr (.inr c))
def nq (p0:Answer) (p1:Int):Option VI:=
 bif decide (256<(p0.Won.length:Int)) then
  some ([]:VI)
 else
  EO (cntM (jB p0 p1) p0.Won.length 0 ([]:VI)) λa=>
  aft some (λb=>
   some b) a
def iE (p0:VV) (b:Int) (a:VV):LO VV VV:=
 EO (idx p0 b) λc=>
 EO (appS 8 ([]:VI) c) λd=>
 EO (appS 24 a ([d]:VV)) λe=>
 some (.inr (.inr e))
def oz (p0:VV):Option VV:=
 EO (cntM (iE p0) p0.length 0 ([]:VV)) λa=>
 aft some (λb=>
  some b) a
def lM (p0:Arena):Option (Arena):=
 EO (appS 8 ([]:VI) p0.Owner) λa=>
 EO (oz p0.Next) λb=>
 some ((⟨a,b⟩:Arena):Arena)
def ke (p1:VI) (b:Int) (a:VV):LO Arena VV:=
 EO (idx p1 b) λc=>
 EO (bif decide (0<=c) then
  EO (idx a b) λf=>
  EO (setI a b (([c]:VI):VI)) λe=>
  some e
 else
  some a) λd=>
 some (.inr (.inr d))
def pm (p0:Arena) (p1:VI):Option (Arena):=
 EO (lM p0) λa=>
 EO (cntM (ke p1) p1.length 0 (a.Next:VV)) λb=>
 aft some (λc=>
  some ((⟨a.Owner,c⟩:Arena):Arena)) b
def qH (p0:Parity) (p1:VI):Option (Parity):=
 EO (pm p0.Arena p1) λa=>
 EO (appS 8 ([]:VI) p0.Prio) λb=>
 some ((⟨(⟨a.Owner,a.Next⟩:Arena),b⟩:Parity):Parity)
def gO (p0:Parity) (p2:VI) (a:Int) (k:VI) (l:VI) (j:Int) (c:VI):LO Answer VI:=
 EO (idx l j) λd=>
 EO (idx p2 d) λm=>
 EO (idx p2 a) λn=>
 bif (m !=n) then
  some (.inr (.inr c))
 else
  EO (idx c a) λt=>
  EO (setI c a d) λb=>
  EO (qH p0 b) λo=>
  EO (qI o k) λe=>
  EO (idx p2 a) λp=>
  EO (bif (p==0) then
  some ((e.2.length:Int)==0)
  else
  some false) λg=>
  EO (bif g then
  some true
  else
  EO (idx p2 a) λq=>
  EO (bif (q==1) then
  some ((e.1.length:Int)==0)
  else
  some false) λi=>
  some i) λf=>
  bif f then
   some (.inr (.inl b))
  else
   EO (idx b a) λs=>
   EO (setI b a (-1)) λr=>
   some (.inr (.inr r))
def jH (p0:Parity) (p2:VI) (a:Int) (b:VI):LO Answer VI:=
 EO (idx p2 a) λj=>
 EO (idx p0.Arena.Owner a) λi=>
 EO (bif (i !=j) then
 some true
 else
 EO (idx b a) λk=>
 some (decide (0<=k))) λd=>
 bif d then
  some (.inr (.inr b))
 else
  EO (idx p2 a) λl=>
  EO (nq (⟨p2,([]:VI)⟩:Answer) l) λm=>
  EO (idx p0.Arena.Next a) λc=>
  EO (cntM (gO p0 p2 a m c) c.length 0 b) λe=>
  aft (λf=>some (.inl f)) (λg=>
   some (.inr (.inr g))) e
def ny (p0:Parity) (p1:VI) (p2:VI):Option (Answer):=
 EO (appS 8 ([]:VI) p1) λa=>
 EO (cntM (jH p0 p2) a.length 0 a) λb=>
 aft some (λc=>
  EO (appS 8 ([]:VI) p2) λd=>
  some ((⟨d,c⟩:Answer):Answer)) b
def mR (p0:Parity):Option (Answer):=
 EO (np p0) λd=>
 bif (!d) then
  some ((⟨([]:VI),([]:VI)⟩:Answer):Answer)
 else
  EO (qG p0.Arena) λa=>
  EO (eJ p0) λb=>
  EO (ny p0 a b) λc=>
  some c
def jF (p0:Int) (c0:VL) (c1:Int):Option Bool:=
 EO (idx c0 p0) λa=>
 some ((a.At==c1):Bool)
def cw (p0:VI) (c1_0:VL) (b:Int) (a:Int) (e:Unit):LO Int Unit:=
 EO (idx p0 a) λc=>
 EO (jF c c1_0 b) λd=>
 bif d then
  some (.inl a)
 else
  some (.inr (.inr ()))
def cg (p0:VI) (c1_0:VL) (a:Int):Option Int:=
 EO (cntM (cw p0 c1_0 a) p0.length 0 ()) λb=>
 aft some (λc=>
  some ((-1):Int)) b
def fV (p0:Sig) (p1:Det) (p2:Parity) (f:VL) (k:Place) (d:Int) (l:Place) (m:Int) (g:Int) (a:VI×VI):LO Rival (VI×VI):=
 EO (idx p1.Next k.At) λn=>
 EO (cJ p0) λo=>
 EO (idx n (ET .i64 ((ET .i64 (g * o))+(E0 (ET .i64 (l.At-(p1.Next.length:Int))) m)))) λp=>
 EO (idx p2.Arena.Next d) λq=>
 EO (cg q f p) λr=>
 EO (idx p2.Arena.Next d) λs=>
 EO (idx s r) λe=>
 EO (cH a.1 e) λc=>
 EO (bif decide (c<0) then
  EO (appS 8 a.1 ([e]:VI)) λi=>
  some (i,((a.1.length:Int):Int))
 else
  some (a.1,c)) λb=>
 EO (appS 8 a.2 ([b.2]:VI)) λj=>
 some (.inr (.inr (b.1,j)))
def fU (p0:Sig) (p1:Det) (p2:Parity) (b:VL) (l:Answer) (a:VI×Int×VI×VV):LO Rival (VI×Int×VI×VV):=
 bif decide (a.2.1<(a.1.length:Int)) then
  EO (idx a.1 a.2.1) λm=>
  EO (idx b m) λn=>
  EO (idx a.1 a.2.1) λo=>
  EO (idx l.Plan o) λe=>
  EO (idx b e) λf=>
  EO (cJ p0) λc=>
  EO (nz c) λ_z61=>
  EO (nn p0.Out) λ_z65=>
  EO (rng (ET .i64 (1 * 2 ^ (min (ES p0.Out) (E1 E2))))) λ_=>
  EO (cntM (fV p0 p1 p2 b n e f c) (ES ((ET .i64 (1 * 2 ^ (min (ES p0.Out) (E1 E2))))-0)) 0 (a.1,([]:VI))) λg=>
  aft (λi=>some (.inl i)) (λd=>
   EO (appS 8 a.2.2.1 ([(E0 (ET .i64 (f.At-(p1.Next.length:Int))) c)]:VI)) λj=>
   EO (appS 24 a.2.2.2 ([d.2]:VV)) λk=>
   some (.inr (.inr (d.1,(ET .i64 (a.2.1+1)),j,k)))) g
 else
  some (.inr (.inl (a.1,a.2.1,a.2.2.1,a.2.2.2)))
def lN (p0:Sig) (p1:Det) (p2:Parity) (b:VL):Option (Rival):=
 EO (mR p2) λd=>
 EO (bQ (fU p0 p1 p2 b d) (2 ^ 64) ((([0]:VI):VI),(0:Int),([]:VI),([]:VV))) λc=>
 aft some (λa=>
  some ((⟨a.2.2.1,a.2.2.2⟩:Rival):Rival)) c
def eV (p0:Sig) (p1:VC):Option (Rival×Bool):=
 EO (c8 p0 p1) λb=>
 bif (!b.2) then
  some (((⟨([]:VI),([]:VV)⟩:Rival):Rival),false)
 else
  EO (eW p0 b.1) λc=>
  EO (d8 c.1 c.2 0) λa=>
  EO (bif (!a.2.2) then
  some true
  else
  EO (eJ a.1) λe=>
  EO (idx e 0) λf=>
  some (f !=1)) λd=>
  bif d then
   some (((⟨([]:VI),([]:VV)⟩:Rival):Rival),false)
  else
   EO (lN p0 b.1 a.1 a.2.1) λg=>
   some (g,true)
def jz (p0:Int) (c0:VL) (c1:Int) (c2:Int) (c3:Sig) (a:Int):Option Bool:=
 EO (idx c0 p0) λb=>
 EO (cJ c3) λc=>
 some ((b.At==(ET .i64 ((ET .i64 (c1+(ET .i64 (c2 * c))))+a))):Bool)
def cv (p0:VI) (c1_0:VL) (b:Int) (c:Int) (c1_3:Sig) (d:Int) (a:Int) (g:Unit):LO Int Unit:=
 EO (idx p0 a) λe=>
 EO (jz e c1_0 b c c1_3 d) λf=>
 bif f then
  some (.inl a)
 else
  some (.inr (.inr ()))
def cd (p0:VI) (c1_0:VL) (a:Int) (b:Int) (c1_3:Sig) (c:Int):Option Int:=
 EO (cntM (cv p0 c1_0 a b c1_3 c) p0.length 0 ()) λd=>
 aft some (λe=>
  some ((-1):Int)) d
def jC (p0:VP) (p1:Int) (c:Int) (f:Unit):LO Bool Unit:=
 EO (idx p0 c) λa=>
 EO (lQ a.Ask p1) λd=>
 EO (bif (!d) then
 some true
 else
 EO (lQ a.Give p1) λe=>
 some (!e)) λb=>
 bif b then
  some (.inl false)
 else
  some (.inr (.inr ()))
def kW (p0:VP) (p1:Int):Option Bool:=
 EO (cntM (jC p0 p1) p0.length 0 ()) λa=>
 aft some (λb=>
  some (decide ((p0.length:Int)<=4):Bool)) a
def fN (p0:Int) (c0:Int):Option Bool:=
 EO (bif decide (p0<0) then
 some true
 else
 some (decide (c0<=p0))) λa=>
 some a
def co (p0:VI) (c1_0:Int) (a:Int) (d:Unit):LO Int Unit:=
 EO (idx p0 a) λb=>
 EO (fN b c1_0) λc=>
 bif c then
  some (.inl a)
 else
  some (.inr (.inr ()))
def cC (p0:VI) (c1_0:Int):Option Int:=
 EO (cntM (co p0 c1_0) p0.length 0 ()) λa=>
 aft some (λb=>
  some ((-1):Int)) a
def cn (p0:VI) (c1_0:Int):Option Bool:=
 EO (cC p0 c1_0) λa=>
 some (decide (0<=a):Bool)
def dD (p0:VI) (p1:Int):Option Bool:=
 EO (cn p0 p1) λa=>
 some (!a)
def ns (p0:Sig) (p1:Det) (c:Int) (f:Unit):LO Bool Unit:=
 EO (idx p1.Next c) λa=>
 EO (dX p0) λd=>
 EO (bif ((a.length:Int) !=d) then
 some true
 else
 EO (dD a (p1.Next.length:Int)) λe=>
 some (!e)) λb=>
 bif b then
  some (.inl false)
 else
  some (.inr (.inr ()))
def qD (p0:Sig) (p1:Det):Option Bool:=
 EO (bif decide ((p1.Next.length:Int)<1) then
 some true
 else
 some (decide (48<(p1.Next.length:Int)))) λa=>
 EO (bif a then
 some true
 else
 EO (kW p1.Pairs (p1.Next.length:Int)) λd=>
 some (!d)) λb=>
 bif b then
  some false
 else
  EO (cntM (ns p0 p1) p1.Next.length 0 ()) λc=>
  aft some (λe=>
   some true) c
def iA (p0:Sig) (p1:Det) (p2:Int) (c:Int) (d:Int) (b:Int) (a:VI):LO VI VI:=
 EO (idx p1.Next p2) λf=>
 EO (cJ p0) λg=>
 EO (idx f (ET .i64 ((ET .i64 (b * g))+c))) λi=>
 EO (bif (i==d) then
  EO (appS 8 a ([b]:VI)) λj=>
  some j
 else
  some a) λe=>
 some (.inr (.inr e))
def lK (p0:Sig) (p1:Det) (p2:Int) (a:Int) (f:Int):Option VI:=
 EO (kh p0) λk=>
 EO (bif (!k) then
 some true
 else
 EO (qD p0 p1) λl=>
 some (!l)) λb=>
 EO (bif b then
 some true
 else
 some (decide (p2<0))) λc=>
 EO (bif c then
 some true
 else
 some (decide ((p1.Next.length:Int)<=p2))) λd=>
 EO (bif d then
 some true
 else
 some (decide (a<0))) λe=>
 EO (bif e then
 some true
 else
 EO (cJ p0) λm=>
 some (decide (m<=a))) λg=>
 bif g then
  some ([]:VI)
 else
  EO (nn p0.Out) λ_z46=>
  EO (rng (ET .i64 (1 * 2 ^ (min (ES p0.Out) (E1 E2))))) λ_=>
  EO (cntM (iA p0 p1 p2 a f) (ES ((ET .i64 (1 * 2 ^ (min (ES p0.Out) (E1 E2))))-0)) 0 ([]:VI)) λi=>
  aft some (λj=>
   some j) i
def fJ (p0:Sig) (i:Det×Bool) (b:Parity×VL×Bool) (t:Answer) (e:VI×Int×VV×VV) (j:Place) (f:Int) (a:VI×VI×VI):LO (Machine×Bool) (VI×VI×VI):=
 EO (idx a.1 e.2.1) λu=>
 EO (idx b.1.Arena.Next u) λv=>
 EO (cd v b.2.1 (i.1.Next.length:Int) j.At p0 f) λw=>
 EO (idx a.1 e.2.1) λk=>
 EO (idx b.1.Arena.Next k) λl=>
 EO (idx l w) λm=>
 EO (idx t.Plan m) λc=>
 EO (cH a.1 c) λg=>
 EO (bif decide (g<0) then
  EO (appS 8 a.1 ([c]:VI)) λn=>
  some (n,((a.1.length:Int):Int))
 else
  some (a.1,g)) λd=>
 EO (appS 8 a.2.1 ([d.2]:VI)) λo=>
 EO (idx b.2.1 c) λp=>
 EO (lK p0 i.1 j.At f p.At) λq=>
 EO (idx q 0) λr=>
 EO (appS 8 a.2.2 ([r]:VI)) λs=>
 some (.inr (.inr (d.1,o,s)))
def iz (p0:Sig) (j:Det×Bool) (c:Parity×VL×Bool) (k:Answer) (a:VI×Int×VV×VV):LO (Machine×Bool) (VI×Int×VV×VV):=
 bif decide (a.2.1<(a.1.length:Int)) then
  EO (idx a.1 a.2.1) λl=>
  EO (idx c.2.1 l) λm=>
  EO (cJ p0) λd=>
  EO (rng d) λ_=>
  EO (cntM (fJ p0 j c k a m) (ES (d-0)) 0 (a.1,([]:VI),([]:VI))) λe=>
  aft (λf=>some (.inl f)) (λb=>
   EO (appS 24 a.2.2.1 ([b.2.1]:VV)) λg=>
   EO (appS 24 a.2.2.2 ([b.2.2]:VV)) λi=>
   some (.inr (.inr (b.1,(ET .i64 (a.2.1+1)),g,i)))) e
 else
  some (.inr (.inl (a.1,a.2.1,a.2.2.1,a.2.2.2)))
def io (p0:Sig) (p1:VC):Option (Machine×Bool):=
 EO (c8 p0 p1) λc=>
 bif (!c.2) then
  some (((⟨([]:VV),([]:VV)⟩:Machine):Machine),false)
 else
  EO (eW p0 c.1) λd=>
  EO (d8 d.1 d.2 0) λa=>
  EO (bif (!a.2.2) then
  some true
  else
  EO (eJ a.1) λg=>
  EO (idx g 0) λi=>
  some (i !=0)) λe=>
  bif e then
   some (((⟨([]:VV),([]:VV)⟩:Machine):Machine),false)
  else
   EO (mR a.1) λj=>
   EO (bQ (iz p0 c a j) (2 ^ 64) ((([0]:VI):VI),(0:Int),([]:VV),([]:VV))) λf=>
   aft some (λb=>
    bif decide (48<(b.1.length:Int)) then
     some (((⟨([]:VV),([]:VV)⟩:Machine):Machine),false)
    else
     some (((⟨b.2.2.1,b.2.2.2⟩:Machine):Machine),true)) f
def lO (p0:Arena) (p1:Int):Option Bool:=
 EO (bif decide (0<=p1) then
 EO (oG p0) λb=>
 some (decide (p1<b))
 else
 some false) λa=>
 some a
def mB (p0:Arena) (p1:VP) (p2:Int):Option Int:=
 EO (mO p0) λd=>
 EO (bif (!d) then
 some true
 else
 EO (oG p0) λe=>
 EO (kW p1 e) λf=>
 some (!f)) λb=>
 EO (bif b then
 some true
 else
 EO (lO p0 p2) λg=>
 some (!g)) λc=>
 bif c then
  some ((-1):Int)
 else
  EO (d8 p0 p1 p2) λa=>
  bif (!a.2.2) then
   some ((-1):Int)
  else
   EO (eJ a.1) λi=>
   EO (idx i 0) λj=>
   some j
def nk (p0:Sig) (p1:Det):Option Int:=
 EO (kh p0) λe=>
 EO (bif (!e) then
 some true
 else
 EO (qD p0 p1) λc=>
 some (!c)) λb=>
 bif b then
  some ((-1):Int)
 else
  EO (eW p0 p1) λa=>
  EO (mB a.1 a.2 0) λd=>
  some d
def gM (p0:Sig) (p1:VC):Option Bool:=
 EO (c8 p0 p1) λa=>
 EO (bif a.2 then
 EO (nk p0 a.1) λc=>
 some (c==0)
 else
 some false) λb=>
 some b
def fI (p0:Sig) (p1:VC):Option Int:=
 EO (gM p0 p1) λb=>
 bif b then
  some (0:Int)
 else
  EO (eV p0 p1) λa=>
  bif a.2 then
   some (1:Int)
  else
   some ((-1):Int)
def fF (p0:Int) (p1:Int) (p2:Int):Option Bool:=
 EO (bif decide (p1<=p0) then
 some (decide (p0<=p2))
 else
 some false) λa=>
 some a
def jP (p0:Sig):Option Bool:=
 EO (fF p0.In 1 2) λb=>
 EO (bif b then
 EO (fF p0.Out 1 2) λc=>
 some c
 else
 some false) λa=>
 some a
def gY  (a:Int×Int):LO Int (Int×Int):=
 bif decide (0<a.1) then
  some (.inr (.inr ((ET .i64 (a.1-1)),(ET .i64 (a.2 * 2)))))
 else
  some (.inr (.inl (a.1,a.2)))
def eC (p0:Int):Option Int:=
 EO (bQ gY (2 ^ 64) (p0,(1:Int))) λa=>
 aft some (λb=>
  some b.2) a
def dI (p0:Sig):Option Int:=
 EO (jP p0) λb=>
 bif (!b) then
  some (0:Int)
 else
  EO (eC (ET .i64 (p0.In+p0.Out))) λa=>
  some a
def kH (p0:VI) (p1:Int) (a:Int) (i:Unit):LO Bool Unit:=
 EO (idx p0 a) λd=>
 EO (fF d 0 (ET .i64 (p1-1))) λe=>
 EO (bif (!e) then
 some true
 else
 EO (bif decide (0<a) then
 EO (idx p0 a) λf=>
 EO (idx p0 (ET .i64 (a-1))) λg=>
 some (decide (f<=g))
 else
 some false) λb=>
 some b) λc=>
 bif c then
  some (.inl false)
 else
  some (.inr (.inr ()))
def pJ (p0:VI) (p1:Int):Option Bool:=
 EO (cntM (kH p0 p1) p0.length 0 ()) λa=>
 aft some (λb=>
  some true) a
def nX (p0:VI) (p1:Int):Option Bool:=
 EO (bif decide ((p0.length:Int)<=p1) then
 EO (pJ p0 p1) λb=>
 some b
 else
 some false) λa=>
 some a
def rR (p0:Int):Option Bool:=
 EO (bif (p0==2) then
 some true
 else
 some (p0==3)) λb=>
 EO (bif b then
 some true
 else
 some (p0==7)) λa=>
 some a
def jo (p0:Sig) (p1:Clause):Option Bool:=
 EO (jP p0) λk=>
 EO (bif (!k) then
 some true
 else
 EO (fF p1.Kind 1 7) λf=>
 some (!f)) λb=>
 bif b then
  some false
 else
  EO (dI p0) λa=>
  EO (nX p1.A a) λg=>
  EO (bif g then
  EO (nX p1.B a) λi=>
  some i
  else
  some false) λc=>
  EO (bif c then
  EO (rR p1.Kind) λj=>
  EO (bif j then
  some true
  else
  some ((p1.B.length:Int)==0)) λd=>
  some d
  else
  some false) λe=>
  some e
def iT (p0:Sig) (p1:VC) (a:Int) (d:Unit):LO Bool Unit:=
 EO (idx p1 a) λb=>
 EO (jo p0 b) λc=>
 bif (!c) then
  some (.inl false)
 else
  some (.inr (.inr ()))
def ga (p0:Sig) (p1:VC):Option Bool:=
 EO (jP p0) λc=>
 EO (bif (!c) then
 some true
 else
 some (decide (3<(p1.length:Int)))) λa=>
 bif a then
  some false
 else
  EO (cntM (iT p0 p1) p1.length 0 ()) λb=>
  aft some (λd=>
   some true) b
def pN (p0:Int):Option (Pair):=
 EO (bif (p0==1) then
  some true
 else
  some ((p0==5):Bool)) λa=>
 bif a then
  some ((⟨([1]:VI),([]:VI)⟩:Pair):Pair)
 else
  bif (p0==2) then
   some ((⟨([2]:VI),([]:VI)⟩:Pair):Pair)
  else
   bif (p0==3) then
    some ((⟨([1]:VI),([0]:VI)⟩:Pair):Pair)
   else
    bif (p0==4) then
     some ((⟨([0,1]:VI),([1]:VI)⟩:Pair):Pair)
    else
     bif (p0==6) then
      some ((⟨([0]:VI),([]:VI)⟩:Pair):Pair)
     else
      some ((⟨([2,3]:VI),([1,3]:VI)⟩:Pair):Pair)
def j6 (p0:Int):Option Int:=
 bif (p0==2) then
  some (3:Int)
 else
  bif (p0==7) then
   some (4:Int)
  else
   some (2:Int)
def jq (p0:VI) (p1:Int) (a:Int) (c:Unit):LO Bool Unit:=
 EO (idx p0 a) λb=>
 bif (b==p1) then
  some (.inl true)
 else
  some (.inr (.inr ()))
def ee (p0:VI) (p1:Int):Option Bool:=
 EO (cntM (jq p0 p1) p0.length 0 ()) λa=>
 aft some (λb=>
  some false) a
def gp (p0:Bool):Option Int:=
 bif p0 then
  some (1:Int)
 else
  some (0:Int)
def kF (p0:Int) (p1:Int):Option Int:=
 bif decide (p1<p0) then
  some p0
 else
  some p1
def pM (p0:Clause) (p1:Int) (p2:Int):Option Int:=
 EO (ee p0.A p2) λe=>
 EO (gp e) λa=>
 EO (ee p0.B p2) λf=>
 EO (gp f) λb=>
 bif (p0.Kind==1) then
  EO (kF p1 (ET .i64 (1-a))) λg=>
  some g
 else
  bif (p0.Kind==2) then
   EO (bif (p1==2) then
   some true
   else
   EO (bif (p1==1) then
   some (b==0)
   else
   some false) λc=>
   some c) λd=>
   bif d then
    some (2:Int)
   else
    some a
  else
   bif (p0.Kind==3) then
    bif (b==1) then
     some (0:Int)
    else
     EO (kF p1 a) λi=>
     some i
   else
    bif (p0.Kind==4) then
     some a
    else
     bif (p0.Kind==5) then
      some (ET .i64 (1-a))
     else
      bif (p0.Kind==6) then
       EO (kF p1 a) λj=>
       some j
      else
       some (ET .i64 ((ET .i64 (2 * a))+b))
def iV (p0:Sig) (p1:Clause) (b:Int×VV) (a:VI×Int):LO Det (VI×Int):=
 EO (dI p0) λc=>
 bif decide (a.2<c) then
  EO (pM p1 b.1 a.2) λd=>
  EO (appS 8 a.1 ([d]:VI)) λe=>
  some (.inr (.inr (e,(ET .i64 (a.2+1)))))
 else
  some (.inr (.inl (a.1,a.2)))
def iU (p0:Sig) (p1:Clause) (a:Int×VV):LO Det (Int×VV):=
 EO (j6 p1.Kind) λe=>
 bif decide (a.1<e) then
  EO (bQ (iV p0 p1 a) (2 ^ 64) (([]:VI),(0:Int))) λb=>
  aft (λc=>some (.inl c)) (λd=>
   EO (appS 24 a.2 ([d.1]:VV)) λf=>
   some (.inr (.inr ((ET .i64 (a.1+1)),f)))) b
 else
  some (.inr (.inl (a.1,a.2)))
def mg (p0:Sig) (p1:Clause):Option (Det):=
 EO (jo p0 p1) λc=>
 bif (!c) then
  some ((⟨([]:VV),([]:VP)⟩:Det):Det)
 else
  EO (pN p1.Kind) λd=>
  EO (bQ (iU p0 p1) (2 ^ 64) ((0:Int),([]:VV))) λa=>
  aft some (λb=>
   some ((⟨b.2,([d]:VP)⟩:Det):Det)) a
def jS (p0:VI) (p1:Int) (a:Int) (d:Unit):LO Bool Unit:=
 EO (idx p0 a) λb=>
 EO (fF b 0 (ET .i64 (p1-1))) λc=>
 bif (!c) then
  some (.inl false)
 else
  some (.inr (.inr ()))
def gq (p0:VI) (p1:Int):Option Bool:=
 EO (cntM (jS p0 p1) p0.length 0 ()) λa=>
 aft some (λb=>
  some true) a
def jO (p0:VI) (p1:Int):Option Bool:=
 EO (fF p1 0 256) λc=>
 EO (bif c then
 EO (nX p0 p1) λb=>
 some b
 else
 some false) λa=>
 some a
def kz (p0:VP) (p1:Int) (a:Int) (g:Unit):LO Bool Unit:=
 EO (idx p0 a) λc=>
 EO (jO c.Ask p1) λd=>
 EO (bif (!d) then
 some true
 else
 EO (idx p0 a) λe=>
 EO (jO e.Give p1) λf=>
 some (!f)) λb=>
 bif b then
  some (.inl false)
 else
  some (.inr (.inr ()))
def m5 (p0:VP) (p1:Int):Option Bool:=
 EO (fF p1 0 256) λc=>
 EO (bif (!c) then
 some true
 else
 some (decide (4<(p0.length:Int)))) λa=>
 bif a then
  some false
 else
  EO (cntM (kz p0 p1) p0.length 0 ()) λb=>
  aft some (λd=>
   some true) b
def nP (p0:Sig) (p1:Det) (a:Int) (g:Unit):LO Bool Unit:=
 EO (idx p1.Next a) λc=>
 EO (dI p0) λd=>
 EO (bif ((c.length:Int) !=d) then
 some true
 else
 EO (idx p1.Next a) λe=>
 EO (gq e (p1.Next.length:Int)) λf=>
 some (!f)) λb=>
 bif b then
  some (.inl false)
 else
  some (.inr (.inr ()))
def nO (p0:Sig) (p1:Det):Option Bool:=
 EO (jP p0) λc=>
 EO (bif (!c) then
 some true
 else
 EO (fF (p1.Next.length:Int) 1 48) λd=>
 some (!d)) λa=>
 bif a then
  some false
 else
  EO (cntM (nP p0 p1) p1.Next.length 0 ()) λb=>
  aft some (λf=>
   EO (m5 p1.Pairs (p1.Next.length:Int)) λe=>
   some e) b
def jW (p0:VV) (p1:Int) (p2:Int) (a:Int) (g:Unit):LO Int Unit:=
 EO (idx p0 a) λc=>
 EO (idx c 0) λd=>
 EO (bif (d==p1) then
 EO (idx p0 a) λe=>
 EO (idx e 1) λf=>
 some (f==p2)
 else
 some false) λb=>
 bif b then
  some (.inl a)
 else
  some (.inr (.inr ()))
def js (p0:VV) (p1:Int) (p2:Int):Option Int:=
 EO (cntM (jW p0 p1 p2) p0.length 0 ()) λa=>
 aft some (λb=>
  some ((-1):Int)) a
def jV (p0:VP) (p1:VV) (p2:Int) (c:Int) (b:Int) (a:VI×VI):LO VP (VI×VI):=
 EO (idx p0 c) λf=>
 EO (idx p1 b) λg=>
 EO (idx g p2) λi=>
 EO (ee f.Ask i) λj=>
 EO (bif j then
  EO (appS 8 a.1 ([b]:VI)) λk=>
  some k
 else
  some a.1) λd=>
 EO (idx p0 c) λl=>
 EO (idx p1 b) λm=>
 EO (idx m p2) λn=>
 EO (ee l.Give n) λo=>
 EO (bif o then
  EO (appS 8 a.2 ([b]:VI)) λp=>
  some p
 else
  some a.2) λe=>
 some (.inr (.inr (d,e)))
def jU (p0:VP) (p1:VV) (p2:Int) (e:Int) (d:VP):LO VP VP:=
 EO (cntM (jV p0 p1 p2 e) p1.length 0 (([]:VI),([]:VI))) λb=>
 aft (λc=>some (.inl c)) (λa=>
  EO (appS 48 d ([(⟨a.1,a.2⟩:Pair)]:VP)) λf=>
  some (.inr (.inr f))) b
def jr (p0:VP) (p1:VV) (p2:Int):Option VP:=
 EO (cntM (jU p0 p1 p2) p0.length 0 ([]:VP)) λa=>
 aft some (λb=>
  some b) a
def gt (p0:Det) (p1:Det) (c:VV×Int×VV) (d:Int) (a:VV×VI):LO (Det×Bool) (VV×VI):=
 EO (idx a.1 c.2.1) λi=>
 EO (idx i 0) λj=>
 EO (idx p0.Next j) λk=>
 EO (idx k d) λe=>
 EO (idx a.1 c.2.1) λl=>
 EO (idx l 1) λm=>
 EO (idx p1.Next m) λn=>
 EO (idx n d) λf=>
 EO (js a.1 e f) λg=>
 EO (bif decide (g<0) then
  EO (appS 24 a.1 ([([e,f]:VI)]:VV)) λo=>
  some (o,((a.1.length:Int):Int))
 else
  some (a.1,g)) λb=>
 EO (appS 8 a.2 ([b.2]:VI)) λp=>
 some (.inr (.inr (b.1,p)))
def ja (p0:Det) (p1:Det) (p2:Int) (a:VV×Int×VV):LO (Det×Bool) (VV×Int×VV):=
 bif decide (a.2.1<(a.1.length:Int)) then
  EO (rng p2) λ_=>
  EO (cntM (gt p0 p1 a) (ES (p2-0)) 0 (a.1,([]:VI))) λc=>
  aft (λd=>some (.inl d)) (λb=>
   bif decide (48<(b.1.length:Int)) then
    some (.inl (((⟨([]:VV),([]:VP)⟩:Det):Det),false))
   else
    EO (appS 24 a.2.2 ([b.2]:VV)) λe=>
    some (.inr (.inr (b.1,(ET .i64 (a.2.1+1)),e)))) c
 else
  some (.inr (.inl (a.1,a.2.1,a.2.2)))
def gr (p0:Det) (p1:Det) (p2:Int):Option (Det×Bool):=
 EO (bQ (ja p0 p1 p2) (2 ^ 64) ((([([0,0]:VI)]:VV):VV),(0:Int),([]:VV))) λb=>
 aft some (λa=>
  EO (jr p0.Pairs a.1 0) λc=>
  EO (jr p1.Pairs a.1 1) λd=>
  EO (appS 48 c d) λe=>
  some (((⟨a.2.2,e⟩:Det):Det),true)) b
def mc (p0:Sig) (p1:Det) (p2:Det):Option (Det×Bool):=
 EO (nO p0 p1) λd=>
 EO (bif (!d) then
 some true
 else
 EO (nO p0 p2) λe=>
 some (!e)) λb=>
 EO (bif b then
 some true
 else
 some (decide (4<(ET .i64 ((p1.Pairs.length:Int)+(p2.Pairs.length:Int)))))) λc=>
 bif c then
  some (((⟨([]:VV),([]:VP)⟩:Det):Det),false)
 else
  EO (dI p0) λf=>
  EO (gr p1 p2 f) λa=>
  some (a.1,a.2)
def gn (p0:Sig) (p1:VC) (c:Int) (b:VV×VP):LO (Det×Bool) (VV×VP):=
 EO (idx p1 c) λd=>
 EO (mg p0 d) λe=>
 EO (mc p0 (⟨b.1,b.2⟩:Det) e) λa=>
 bif (!a.2) then
  some (.inl (((⟨([]:VV),([]:VP)⟩:Det):Det),false))
 else
  some (.inr (.inr (a.1.Next,a.1.Pairs)))
def di (p0:Sig) (p1:VC):Option (Det×Bool):=
 EO (ga p0 p1) λc=>
 bif (!c) then
  some (((⟨([]:VV),([]:VP)⟩:Det):Det),false)
 else
  EO (dI p0) λd=>
  EO (mkS 8 d (0:Int)) λe=>
  EO (cntM (gn p0 p1) p1.length 0 ((([e]:VV):VV),([]:VP))) λb=>
  aft some (λa=>
   some (((⟨a.1,a.2⟩:Det):Det),true)) b
def eY (p0:Sig):Option Int:=
 EO (eC p0.In) λa=>
 some a
def gl (p0:Sig) (p1:Int) (p2:Int):Option Int:=
 EO (jP p0) λi=>
 EO (bif (!i) then
 some true
 else
 EO (eC p0.In) λc=>
 EO (fF p1 0 (ET .i64 (c-1))) λd=>
 some (!d)) λa=>
 EO (bif a then
 some true
 else
 EO (eC p0.Out) λe=>
 EO (fF p2 0 (ET .i64 (e-1))) λf=>
 some (!f)) λb=>
 bif b then
  some ((-1):Int)
 else
  EO (eC p0.In) λg=>
  some (ET .i64 ((ET .i64 (p2 * g))+p1))
def dj (p0:VI):Option VI:=
 EO (appS 8 ([]:VI) p0) λa=>
 some a
def iv (p0:VI) (p1:Int) (a:Int):LO VI Int:=
 EO (bif decide (a<(p0.length:Int)) then
 EO (idx p0 a) λc=>
 some (decide (c<p1))
 else
 some false) λb=>
 bif b then
  some (.inr (.inr (ET .i64 (a+1))))
 else
  some (.inr (.inl a))
def gW (p0:VI) (p1:Int):Option VI:=
 EO (bQ (iv p0 p1) (2 ^ 64) (0:Int)) λc=>
 aft some (λa=>
  EO (bif decide (a<(p0.length:Int)) then
  EO (idx p0 a) λd=>
  some (d==p1)
  else
  some false) λb=>
  bif b then
   some p0
  else
   EO (subS p0 0 a) λe=>
   EO (dj e) λf=>
   EO (appS 8 f ([p1]:VI)) λg=>
   EO (subS p0 a (p0.length:Int)) λi=>
   EO (appS 8 g i) λj=>
   some j) c
def jX (p0:Sig) (p1:Det) (p2:Int) (b:Int) (a:VI×Int):LO VI (VI×Int):=
 EO (eC p0.Out) λc=>
 bif decide (a.2<c) then
  EO (idx p1.Next p2) λd=>
  EO (gl p0 b a.2) λe=>
  EO (idx d e) λf=>
  EO (gW a.1 f) λg=>
  some (.inr (.inr (g,(ET .i64 (a.2+1)))))
 else
  some (.inr (.inl (a.1,a.2)))
def nZ (p0:Sig) (p1:Det) (p2:Int) (a:Int):Option VI:=
 EO (bQ (jX p0 p1 p2 a) (2 ^ 64) (([]:VI),(0:Int))) λb=>
 aft some (λc=>
  some c.1) b
def gg (p1:Det) (d:Int) (b:Int) (c:Int) (a:VI):LO (Arena×VP×Bool) VI:=
 EO (appS 8 a ([(ET .i64 ((ET .i64 ((p1.Next.length:Int)+(ET .i64 (b * d))))+c))]:VI)) λe=>
 some (.inr (.inr e))
def gf (p1:Det) (a:Int) (f:Int) (b:VI×VV):LO (Arena×VP×Bool) (VI×VV):=
 EO (rng a) λ_=>
 EO (cntM (gg p1 a f) (ES (a-0)) 0 ([]:VI)) λc=>
 aft (λd=>some (.inl d)) (λe=>
  EO (appS 8 b.1 ([1]:VI)) λg=>
  EO (appS 24 b.2 ([e]:VV)) λi=>
  some (.inr (.inr (g,i)))) c
def gi (p0:Sig) (p1:Det) (b:Int) (c:Int) (a:VI×VV):LO (Arena×VP×Bool) (VI×VV):=
 EO (appS 8 a.1 ([0]:VI)) λd=>
 EO (nZ p0 p1 b c) λe=>
 EO (appS 24 a.2 ([e]:VV)) λf=>
 some (.inr (.inr (d,f)))
def gh (p0:Sig) (p1:Det) (c:Int) (f:Int) (b:VI×VV):LO (Arena×VP×Bool) (VI×VV):=
 EO (rng c) λ_=>
 EO (cntM (gi p0 p1 f) (ES (c-0)) 0 (b.1,b.2)) λd=>
 aft (λe=>some (.inl e)) (λa=>
  some (.inr (.inr (a.1,a.2)))) d
def gj (p1:Det) (a:Int) (b:VP):LO (Arena×VP×Bool) VP:=
 EO (idx p1.Pairs a) λg=>
 EO (idx p1.Pairs a) λd=>
 EO (dj g.Ask) λc=>
 EO (dj d.Give) λe=>
 EO (appS 48 b ([(⟨c,e⟩:Pair)]:VP)) λf=>
 some (.inr (.inr f))
def gc (p0:Sig) (p1:Det):Option (Arena×VP×Bool):=
 EO (nO p0 p1) λi=>
 bif (!i) then
  some (((⟨([]:VI),([]:VV)⟩:Arena):Arena),([]:VP),false)
 else
  EO (eY p0) λc=>
  EO (cntM (gf p1 c) p1.Next.length 0 (([]:VI),([]:VV))) λe=>
  aft some (λa=>
   EO (cntM (gh p0 p1 c) p1.Next.length 0 (a.1,a.2)) λf=>
   aft some (λb=>
    EO (cntM (gj p1) p1.Pairs.length 0 ([]:VP)) λd=>
    aft some (λg=>
     some (((⟨b.1,b.2⟩:Arena):Arena),g,true)) d) f) e
def kx (p0:Arena) (a:Int) (l:Unit):LO Bool Unit:=
 EO (idx p0.Owner a) λe=>
 EO (fF e 0 1) λf=>
 EO (bif (!f) then
 some true
 else
 EO (idx p0.Next a) λg=>
 some (decide ((g.length:Int)<1))) λb=>
 EO (bif b then
 some true
 else
 EO (idx p0.Next a) λi=>
 some (decide (16<(i.length:Int)))) λc=>
 EO (bif c then
 some true
 else
 EO (idx p0.Next a) λj=>
 EO (nX j (p0.Owner.length:Int)) λk=>
 some (!k)) λd=>
 bif d then
  some (.inl false)
 else
  some (.inr (.inr ()))
def mZ (p0:Arena):Option Bool:=
 EO (fF (p0.Owner.length:Int) 1 256) λc=>
 EO (bif (!c) then
 some true
 else
 some ((p0.Next.length:Int) !=(p0.Owner.length:Int))) λa=>
 bif a then
  some false
 else
  EO (cntM (kx p0) p0.Owner.length 0 ()) λb=>
  aft some (λd=>
   some true) b
def mj (p0:VI) (p1:Int) (a:Int) (c:Unit):LO Bool Unit:=
 EO (idx p0 a) λb=>
 bif (b==p1) then
  some (.inl true)
 else
  some (.inr (.inr ()))
def m6 (p0:VI) (p1:Int):Option Bool:=
 EO (cntM (mj p0 p1) p0.length 0 ()) λa=>
 aft some (λb=>
  some false) a
def gD (p0:VP) (p1:VI) (p2:Int) (b:Int) (a:VI×VI):LO VI (VI×VI):=
 EO (idx p1 b) λd=>
 EO (idx p0 d) λe=>
 EO (m6 e.Give p2) λf=>
 EO (bif f then
  EO (idx p1 b) λg=>
  EO (appS 8 a.1 ([g]:VI)) λi=>
  some (i,a.2)
 else
  EO (idx p1 b) λj=>
  EO (appS 8 a.2 ([j]:VI)) λk=>
  some (a.1,k)) λc=>
 some (.inr (.inr (c.1,c.2)))
def kS (p0:VP) (p1:VI) (p2:Int):Option VI:=
 EO (cntM (gD p0 p1 p2) p1.length 0 (([]:VI),([]:VI))) λb=>
 aft some (λa=>
  EO (appS 8 a.1 a.2) λc=>
  some c) b
def gC (p0:VI) (p1:VI) (a:Int) (d:Unit):LO Bool Unit:=
 EO (idx p0 a) λb=>
 EO (idx p1 a) λc=>
 bif (b !=c) then
  some (.inl false)
 else
  some (.inr (.inr ()))
def jQ (p0:VI) (p1:VI):Option Bool:=
 bif ((p0.length:Int) !=(p1.length:Int)) then
  some false
 else
  EO (cntM (gC p0 p1) p0.length 0 ()) λa=>
  aft some (λb=>
   some true) a
def kB (p0:VL) (p1:Int) (p2:VI) (a:Int) (f:Unit):LO Int Unit:=
 EO (idx p0 a) λc=>
 EO (bif (c.At==p1) then
 EO (idx p0 a) λd=>
 EO (jQ d.Record p2) λe=>
 some e
 else
 some false) λb=>
 bif b then
  some (.inl a)
 else
  some (.inr (.inr ()))
def pF (p0:VL) (p1:Int) (p2:VI):Option Int:=
 EO (cntM (kB p0 p1 p2) p0.length 0 ()) λa=>
 aft some (λb=>
  some ((-1):Int)) a
def iY (p0:VI) (d:Int) (c:VI) (a:Int):LO VI Int:=
 EO (bif decide (0<a) then
 EO (idx c (ET .i64 (a-1))) λe=>
 EO (idx p0 d) λf=>
 some (decide (f<e))
 else
 some false) λb=>
 bif b then
  some (.inr (.inr (ET .i64 (a-1))))
 else
  some (.inr (.inl a))
def iX (p0:VI) (c:Int) (a:VI):LO VI VI:=
 EO (bQ (iY p0 c a) (2 ^ 64) ((a.length:Int):Int)) λd=>
 aft (λe=>some (.inl e)) (λb=>
  EO (subS a 0 b) λf=>
  EO (appS 8 ([]:VI) f) λg=>
  EO (idx p0 c) λi=>
  EO (appS 8 g ([i]:VI)) λj=>
  EO (subS a b (a.length:Int)) λk=>
  EO (appS 8 j k) λl=>
  some (.inr (.inr l))) d
def ml (p0:VI):Option VI:=
 EO (cntM (iX p0) p0.length 0 ([]:VI)) λa=>
 aft some (λb=>
  some b) a
def gE (p0:VP) (p1:VI) (p2:Int) (a:Int) (b:Int×Int):LO Int (Int×Int):=
 EO (idx p1 a) λe=>
 EO (idx p0 e) λf=>
 EO (m6 f.Ask p2) λg=>
 EO (bif g then
  some a
 else
  some b.1) λc=>
 EO (idx p1 a) λi=>
 EO (idx p0 i) λj=>
 EO (m6 j.Give p2) λk=>
 EO (bif k then
  some a
 else
  some b.2) λd=>
 some (.inr (.inr (c,d)))
def kT (p0:VP) (p1:VI) (p2:Int):Option Int:=
 EO (cntM (gE p0 p1 p2) p1.length 0 (((-1):Int),((-1):Int))) λc=>
 aft some (λa=>
  EO (bif decide (a.1<0) then
  some (decide (a.2<0))
  else
  some false) λb=>
  bif b then
   some (0:Int)
  else
   bif decide (a.2<a.1) then
    some (ET .i64 ((ET .i64 (2 * a.1))+1))
   else
    some (ET .i64 ((ET .i64 (2 * a.2))+2))) c
def fw  (b:Int) (a:VI):LO (Parity×VL×Bool) VI:=
 EO (appS 8 a ([b]:VI)) λc=>
 some (.inr (.inr c))
def gU (p0:Arena) (b:Place) (c:VI) (a:VL×VI×Int):LO (Parity×VL×Bool) (VL×VI×Int):=
 EO (idx p0.Next b.At) λm=>
 bif decide (a.2.2<(m.length:Int)) then
  EO (idx p0.Next b.At) λn=>
  EO (idx n a.2.2) λd=>
  EO (pF a.1 d c) λe=>
  EO (bif decide (e<0) then
   bif decide (256<=(a.1.length:Int)) then
    some (.inl (((⟨(⟨([]:VI),([]:VV)⟩:Arena),([]:VI)⟩:Parity):Parity),([]:VL),false))
   else
    EO (appS 8 ([]:VI) c) λj=>
    EO (appS 32 a.1 ([(⟨d,j⟩:Place)]:VL)) λk=>
    some (.inr (k,((a.1.length:Int):Int)))
  else
   some (.inr (a.1,e)):Option ((Parity×VL×Bool)⊕(VL×Int))) λg=>
  aft (λi=>some (.inl i)) (λf=>
   EO (appS 8 a.2.1 ([f.2]:VI)) λl=>
   some (.inr (.inr (f.1,l,(ET .i64 (a.2.2+1)))))) g
 else
  some (.inr (.inl (a.1,a.2.1,a.2.2)))
def fx (p0:Arena) (p1:VP) (a:VL×Int×VI×VV×VI):LO (Parity×VL×Bool) (VL×Int×VI×VV×VI):=
 bif decide (a.2.1<(a.1.length:Int)) then
  EO (idx a.1 a.2.1) λb=>
  EO (kS p1 b.Record b.At) λm=>
  EO (bQ (gU p0 b m) (2 ^ 64) (a.1,([]:VI),(0:Int))) λd=>
  aft (λe=>some (.inl e)) (λc=>
   EO (idx p0.Owner b.At) λf=>
   EO (appS 8 a.2.2.1 ([f]:VI)) λg=>
   EO (ml c.2.1) λi=>
   EO (appS 24 a.2.2.2.1 ([i]:VV)) λj=>
   EO (kT p1 b.Record b.At) λk=>
   EO (appS 8 a.2.2.2.2 ([k]:VI)) λl=>
   some (.inr (.inr (c.1,(ET .i64 (a.2.1+1)),g,j,l)))) d
 else
  some (.inr (.inl (a.1,a.2.1,a.2.2.1,a.2.2.2.1,a.2.2.2.2)))
def go (p0:Arena) (p1:VP) (p2:Int):Option (Parity×VL×Bool):=
 EO (mZ p0) λg=>
 EO (bif (!g) then
 some true
 else
 EO (m5 p1 (p0.Owner.length:Int)) λi=>
 some (!i)) λb=>
 EO (bif b then
 some true
 else
 EO (fF p2 0 (ET .i64 ((p0.Owner.length:Int)-1))) λj=>
 some (!j)) λc=>
 bif c then
  some (((⟨(⟨([]:VI),([]:VV)⟩:Arena),([]:VI)⟩:Parity):Parity),([]:VL),false)
 else
  EO (cntM fw p1.length 0 ([]:VI)) λd=>
  aft some (λf=>
   EO (bQ (fx p0 p1) (2 ^ 64) ((([(⟨p2,f⟩:Place)]:VL):VL),(0:Int),([]:VI),([]:VV),([]:VI))) λe=>
   aft some (λa=>
    some (((⟨(⟨a.2.2.1,a.2.2.2.1⟩:Arena),a.2.2.2.2⟩:Parity):Parity),a.1,true)) e) d
def jn (p0:Int) (a:VI×Int):LO VI (VI×Int):=
 EO (bif decide (a.2<p0) then
 some (decide (p0<=256))
 else
 some false) λb=>
 bif b then
  EO (appS 8 a.1 ([a.2]:VI)) λc=>
  some (.inr (.inr (c,(ET .i64 (a.2+1)))))
 else
  some (.inr (.inl (a.1,a.2)))
def nL (p0:Int):Option VI:=
 EO (bQ (jn p0) (2 ^ 64) (([]:VI),(0:Int))) λa=>
 aft some (λb=>
  some b.1) a
def rh (p0:Parity):Option VI:=
 EO (nL (p0.Prio.length:Int)) λa=>
 some a
def jL (p0:Parity) (a:Int) (d:Unit):LO Bool Unit:=
 EO (idx p0.Prio a) λb=>
 EO (fF b 0 40) λc=>
 bif (!c) then
  some (.inl false)
 else
  some (.inr (.inr ()))
def jp (p0:Parity):Option Bool:=
 EO (mZ p0.Arena) λc=>
 EO (bif (!c) then
 some true
 else
 some ((p0.Prio.length:Int) !=(p0.Arena.Owner.length:Int))) λa=>
 bif a then
  some false
 else
  EO (cntM (jL p0) p0.Prio.length 0 ()) λb=>
  aft some (λd=>
   some true) b
def pS (p0:Parity) (b:Int) (a:Int×VV):LO l7Game (Int×VV):=
 EO (idx p0.Arena.Next b) λd=>
 bif decide (a.1<(d.length:Int)) then
  EO (idx p0.Arena.Next b) λe=>
  EO (idx e a.1) λc=>
  EO (idx a.2 c) λf=>
  EO (appS 8 f ([b]:VI)) λg=>
  EO (idx a.2 c) λj=>
  EO (setI a.2 c g) λi=>
  some (.inr (.inr ((ET .i64 (a.1+1)),i)))
 else
  some (.inr (.inl (a.1,a.2)))
def pR (p0:Parity) (b:Int) (a:VV×VI):LO l7Game (VV×VI):=
 EO (idx a.2 b) λg=>
 EO (setI a.2 b (-1)) λf=>
 EO (bQ (pS p0 b) (2 ^ 64) ((0:Int),a.1)) λc=>
 aft (λd=>some (.inl d)) (λe=>
  some (.inr (.inr (e.2,f)))) c
def rT (p0:Parity):Option (l7Game):=
 EO (mkS 24 (p0.Prio.length:Int) ([]:VI)) λa=>
 EO (mkS 8 (p0.Prio.length:Int) (0:Int)) λb=>
 EO (cntM (pR p0) p0.Prio.length 0 (((⟨p0.Arena.Owner,p0.Prio,p0.Arena.Next,a,b⟩:l7Game).prev:VV),((⟨p0.Arena.Owner,p0.Prio,p0.Arena.Next,a,b⟩:l7Game).pick:VI))) λd=>
 aft some (λc=>
  some ((⟨(⟨p0.Arena.Owner,p0.Prio,p0.Arena.Next,a,b⟩:l7Game).owner,(⟨p0.Arena.Owner,p0.Prio,p0.Arena.Next,a,b⟩:l7Game).prio,(⟨p0.Arena.Owner,p0.Prio,p0.Arena.Next,a,b⟩:l7Game).next,c.1,c.2⟩:l7Game):l7Game)) d
def ms (p1:VI) (c:Int) (a:VB):LO VB VB:=
 EO (idx p1 c) λb=>
 EO (idx a b) λe=>
 EO (setI a b true) λd=>
 some (.inr (.inr d))
def rq (p0:Int) (p1:VI):Option VB:=
 EO (mkS 1 p0 false) λc=>
 EO (cntM (ms p1) p1.length 0 c) λa=>
 aft some (λb=>
  some b) a
def pc (p0:l7Game) (p1:Int) (p2:Int):Option Bool:=
 EO (idx p0.pick p1) λb=>
 EO (bif decide (b<0) then
 some true
 else
 EO (idx p0.pick p1) λc=>
 some (c==p2)) λa=>
 some a
def jY (p0:l7Game) (p1:VB) (p2:Int) (a:Int×Int):LO Int (Int×Int):=
 EO (idx p0.next p2) λe=>
 bif decide (a.2<(e.length:Int)) then
  EO (idx p0.next p2) λf=>
  EO (idx f a.2) λb=>
  EO (idx p1 b) λg=>
  EO (bif g then
  EO (pc p0 p2 b) λi=>
  some i
  else
  some false) λc=>
  EO (bif c then
   some (ET .i64 (a.1+1))
  else
   some a.1) λd=>
  some (.inr (.inr (d,(ET .i64 (a.2+1)))))
 else
  some (.inr (.inl (a.1,a.2)))
def jt (p0:l7Game) (p1:VB) (p2:Int):Option Int:=
 EO (bQ (jY p0 p1 p2) (2 ^ 64) ((0:Int),(0:Int))) λa=>
 aft some (λb=>
  some b.1) a
def n8 (p0:l7Game) (p1:VB) (b:Int) (a:Int):LO Int Int:=
 EO (idx p1 b) λd=>
 EO (bif d then
  EO (idx p0.prio b) λe=>
  EO (kF a e) λf=>
  some f
 else
  some a) λc=>
 some (.inr (.inr c))
def sX (p0:l7Game) (p1:VB):Option Int:=
 EO (cntM (n8 p0 p1) p1.length 0 ((-1):Int)) λa=>
 aft some (λb=>
  some b) a
def gu (p0:l7Game) (p1:VB) (d:VB) (a:Int) (b:VI×VB×VI):LO VB (VI×VB×VI):=
 EO (idx p1 a) λg=>
 EO (bif g then
  EO (jt p0 p1 a) λi=>
  EO (idx b.2.2 a) λo=>
  EO (setI b.2.2 a i) λm=>
  some m
 else
  some b.2.2) λf=>
 EO (idx p1 a) λj=>
 EO (bif j then
 EO (idx d a) λk=>
 some k
 else
 some false) λe=>
 EO (bif e then
  EO (idx b.2.1 a) λp=>
  EO (setI b.2.1 a true) λn=>
  EO (appS 8 b.1 ([a]:VI)) λl=>
  some (l,n)
 else
  some (b.1,b.2.1)) λc=>
 some (.inr (.inr (c.1,c.2,f)))
def eR (p0:l7Game) (p1:VB) (p2:Int) (c:Int) (a:VI×Int×VB×VI):LO VB (VI×Int×VB×VI):=
 EO (idx p0.prev c) λo=>
 bif decide (a.2.1<(o.length:Int)) then
  EO (idx p0.prev c) λp=>
  EO (idx p a.2.1) λb=>
  EO (idx p1 b) λq=>
  EO (bif (!q) then
  some true
  else
  EO (idx a.2.2.1 b) λr=>
  some r) λi=>
  EO (bif i then
  some true
  else
  EO (pc p0 b c) λj=>
  some (!j)) λf=>
  bif f then
   some (.inr (.inr (a.1,(ET .i64 (a.2.1+1)),a.2.2.1,a.2.2.2)))
  else
   EO (idx a.2.2.2 b) λk=>
   EO (idx a.2.2.2 b) λt=>
   EO (setI a.2.2.2 b (ET .i64 (k-1))) λe=>
   EO (idx p0.owner b) λl=>
   EO (bif (l==p2) then
   some true
   else
   EO (idx e b) λm=>
   some (m==0)) λg=>
   EO (bif g then
    EO (idx a.2.2.1 b) λu=>
    EO (setI a.2.2.1 b true) λs=>
    EO (appS 8 a.1 ([b]:VI)) λn=>
    some (n,s)
   else
    some (a.1,a.2.2.1)) λd=>
   some (.inr (.inr (d.1,(ET .i64 (a.2.1+1)),d.2,e)))
 else
  some (.inr (.inl (a.1,a.2.1,a.2.2.1,a.2.2.2)))
def jb (p0:l7Game) (p1:VB) (p2:Int) (a:VI×Int×VB×VI):LO VB (VI×Int×VB×VI):=
 bif decide (a.2.1<(a.1.length:Int)) then
  EO (idx a.1 a.2.1) λe=>
  EO (bQ (eR p0 p1 p2 e) (2 ^ 64) (a.1,(0:Int),a.2.2.1,a.2.2.2)) λc=>
  aft (λd=>some (.inl d)) (λb=>
   some (.inr (.inr (b.1,(ET .i64 (a.2.1+1)),b.2.2.1,b.2.2.2)))) c
 else
  some (.inr (.inl (a.1,a.2.1,a.2.2.1,a.2.2.2)))
def j8 (p0:l7Game) (p1:VB) (p2:Int) (b:VB):Option VB:=
 EO (mkS 1 (p1.length:Int) false) λf=>
 EO (mkS 8 (p1.length:Int) (0:Int)) λg=>
 EO (cntM (gu p0 p1 b) p1.length 0 (([]:VI),f,g)) λc=>
 aft some (λa=>
  EO (bQ (jb p0 p1 p2) (2 ^ 64) (a.1,(0:Int),a.2.1,a.2.2)) λd=>
  aft some (λe=>
   some e.2.2.1) d) c
def mq (p0:VB) (p1:VB) (a:Int) (b:VB):LO VB VB:=
 EO (idx p0 a) λd=>
 EO (bif d then
 EO (idx p1 a) λe=>
 some (!e)
 else
 some false) λc=>
 EO (idx b a) λg=>
 EO (setI b a c) λf=>
 some (.inr (.inr f))
def pd (p0:VB) (p1:VB):Option VB:=
 EO (mkS 1 (p0.length:Int) false) λc=>
 EO (cntM (mq p0 p1) p0.length 0 c) λa=>
 aft some (λb=>
  some b) a
def lC (p0:l7Game) (p1:VB) (d:Int) (a:Int) (b:VB):LO VB VB:=
 EO (idx p1 a) λe=>
 EO (bif e then
 EO (idx p0.prio a) λf=>
 some (f==d)
 else
 some false) λc=>
 EO (idx b a) λi=>
 EO (setI b a c) λg=>
 some (.inr (.inr g))
def ju (f:Int) (g:VB) (i:VB) (a:Int) (b:Bool×VB):LO VB (Bool×VB):=
 EO (idx g a) λj=>
 EO (bif j then
 EO (idx i a) λk=>
 some (k !=((E0 f 2)==0))
 else
 some false) λd=>
 EO (idx b.2 a) λm=>
 EO (setI b.2 a d) λc=>
 EO (bif b.1 then
 some true
 else
 EO (idx c a) λl=>
 some l) λe=>
 some (.inr (.inr (e,c)))
def lD (p1:VB) (e:Int) (a:Int) (b:VB):LO VB VB:=
 EO (idx p1 a) λd=>
 EO (bif d then
 some ((E0 e 2)==0)
 else
 some false) λc=>
 EO (idx b a) λg=>
 EO (setI b a c) λf=>
 some (.inr (.inr f))
def lE (j:Int) (e:VB) (f:VB) (a:Int) (b:VB):LO VB VB:=
 EO (idx f a) λg=>
 EO (bif g then
 some true
 else
 EO (idx e a) λi=>
 EO (bif i then
 some ((E0 j 2)==1)
 else
 some false) λc=>
 some c) λd=>
 EO (idx b a) λl=>
 EO (setI b a d) λk=>
 some (.inr (.inr k))
def jv (rc:l7Game->VB->Option VB) (p0:l7Game) (p1:VB):Option VB:=
 EO (sX p0 p1) λa=>
 EO (mkS 1 (p1.length:Int) false) λb=>
 bif decide (a<0) then
  some b
 else
  EO (mkS 1 (p1.length:Int) false) λp=>
  EO (cntM (lC p0 p1 a) p1.length 0 p) λg=>
  aft some (λl=>
   EO (j8 p0 p1 (E0 a 2) l) λq=>
   EO (pd p1 q) λe=>
   EO (rc p0 e) λr=>
   EO (mkS 1 (p1.length:Int) false) λs=>
   EO (cntM (ju a e r) p1.length 0 (false,s)) λi=>
   aft some (λc=>
    bif (!c.1) then
     EO (cntM (lD p1 a) p1.length 0 b) λj=>
     aft some (λm=>
      some m) j
    else
     EO (j8 p0 p1 (ET .i64 (1-(E0 a 2))) c.2) λd=>
     EO (pd p1 d) λn=>
     EO (rc p0 n) λo=>
     EO (cntM (lE a d o) p1.length 0 b) λf=>
     aft some (λk=>
      some k) f) i) g
def kO:Nat->l7Game->VB->Option VB
 |0=>λ_ _=>none
 |n+1=>jv (kO n)
def nU (p1:VI) (b:l7Game) (c:VB) (a:Int) (f:Unit):LO (VI×VI) Unit:=
 EO (idx p1 a) λd=>
 EO (jt b c d) λe=>
 bif (e==0) then
  some (.inl (([]:VI),([]:VI)))
 else
  some (.inr (.inr ()))
def nV (p1:VI) (d:VB) (b:Int) (a:VI×VI):LO (VI×VI) (VI×VI):=
 EO (idx p1 b) λe=>
 EO (idx d e) λf=>
 EO (bif f then
  EO (idx p1 b) λg=>
  EO (appS 8 a.1 ([g]:VI)) λi=>
  some (i,a.2)
 else
  EO (idx p1 b) λj=>
  EO (appS 8 a.2 ([j]:VI)) λk=>
  some (a.1,k)) λc=>
 some (.inr (.inr (c.1,c.2)))
def sT (p0:Parity) (p1:VI):Option (VI×VI):=
 EO (jp p0) λg=>
 EO (bif (!g) then
 some true
 else
 EO (jO p1 (p0.Prio.length:Int)) λi=>
 some (!i)) λd=>
 bif d then
  some (([]:VI),([]:VI))
 else
  EO (rT p0) λb=>
  EO (rq (p0.Prio.length:Int) p1) λc=>
  EO (cntM (nU p1 b c) p1.length 0 ()) λe=>
  aft some (λk=>
   EO (kO (2 ^ 64) b c) λj=>
   EO (cntM (nV p1 j) p1.length 0 (([]:VI),([]:VI))) λf=>
   aft some (λa=>
    some (a.1,a.2)) f) e
def oZ (p0:Sig) (p1:Det) (p2:Int):Option Int:=
 EO (gc p0 p1) λb=>
 EO (go b.1 b.2.1 p2) λa=>
 bif (!a.2.2) then
  some ((-1):Int)
 else
  EO (rh a.1) λc=>
  EO (sT a.1 c) λd=>
  EO (ee d.1 0) λe=>
  EO (gp e) λf=>
  some (ET .i64 (1-f))
def nN (p0:Sig) (p1:Det):Option Int:=
 EO (nO p0 p1) λb=>
 bif (!b) then
  some ((-1):Int)
 else
  EO (oZ p0 p1 0) λa=>
  some a
def gT (p0:Sig) (p1:VC):Option Bool:=
 EO (di p0 p1) λa=>
 EO (bif a.2 then
 EO (nN p0 a.1) λc=>
 some (c==0)
 else
 some false) λb=>
 some b
def mr  (c:Int) (a:VI):LO VI VI:=
 EO (appS 8 a ([(-1)]:VI)) λb=>
 some (.inr (.inr b))
def rm (p0:Int):Option VI:=
 EO (rng p0) λ_=>
 EO (cntM mr (ES (p0-0)) 0 ([]:VI)) λa=>
 aft some (λb=>
  some b) a
def rj (p0:VI) (p1:Int) (a:Int) (c:Unit):LO Bool Unit:=
 EO (idx p0 a) λb=>
 bif (b==p1) then
  some (.inl true)
 else
  some (.inr (.inr ()))
def vo (p0:VI) (p1:Int):Option Bool:=
 EO (cntM (rj p0 p1) p0.length 0 ()) λa=>
 aft some (λb=>
  some false) a
def kN (p0:Parity) (p1:VI) (a:Int) (g:Unit):LO Bool Unit:=
 EO (idx p1 a) λc=>
 EO (bif (c !=(-1)) then
 EO (idx p1 a) λe=>
 EO (idx p0.Arena.Next a) λd=>
 EO (vo d e) λf=>
 some (!f)
 else
 some false) λb=>
 bif b then
  some (.inl false)
 else
  some (.inr (.inr ()))
def pT (p0:Parity) (p1:VI):Option Bool:=
 bif ((p1.length:Int) !=(p0.Prio.length:Int)) then
  some false
 else
  EO (cntM (kN p0 p1) p1.length 0 ()) λa=>
  aft some (λb=>
   some true) a
def mh (p0:Parity) (p1:VI) (a:Int) (c:VV):LO (Parity×Bool) VV:=
 EO (idx p0.Arena.Next a) λd=>
 EO (dj d) λe=>
 EO (idx p1 a) λf=>
 EO (bif decide (0<=f) then
  EO (idx p1 a) λg=>
  some (([g]:VI):VI)
 else
  some e) λb=>
 EO (appS 24 c ([b]:VV)) λi=>
 some (.inr (.inr i))
def qZ (p0:Parity) (p1:VI):Option (Parity×Bool):=
 EO (jp p0) λf=>
 EO (bif (!f) then
 some true
 else
 EO (pT p0 p1) λg=>
 some (!g)) λc=>
 bif c then
  some (((⟨(⟨([]:VI),([]:VV)⟩:Arena),([]:VI)⟩:Parity):Parity),false)
 else
  EO (dj p0.Arena.Owner) λa=>
  EO (dj p0.Prio) λb=>
  EO (cntM (mh p0 p1) p1.length 0 (((⟨(⟨a,([]:VV)⟩:Arena),b⟩:Parity).Arena).Next:VV)) λd=>
  aft some (λe=>
   some (((⟨(⟨((⟨(⟨a,([]:VV)⟩:Arena),b⟩:Parity).Arena).Owner,e⟩:Arena),(⟨(⟨a,([]:VV)⟩:Arena),b⟩:Parity).Prio⟩:Parity):Parity),true)) d
def n7  (b:Int) (a:VB):LO VB VB:=
 EO (idx a b) λd=>
 EO (setI a b true) λc=>
 some (.inr (.inr c))
def sV (p0:Int):Option VB:=
 EO (mkS 1 p0 false) λc=>
 EO (rng p0) λ_=>
 EO (cntM n7 (ES (p0-0)) 0 c) λa=>
 aft some (λb=>
  some b) a
def jw (c:VB) (b:Int) (a:VI):LO VI VI:=
 EO (idx c b) λd=>
 EO (gp d) λe=>
 EO (appS 8 a ([(ET .i64 (1-e))]:VI)) λf=>
 some (.inr (.inr f))
def g8 (p0:Parity):Option VI:=
 EO (rT p0) λe=>
 EO (sV (p0.Prio.length:Int)) λd=>
 EO (kO (2 ^ 64) e d) λa=>
 EO (cntM (jw a) a.length 0 ([]:VI)) λb=>
 aft some (λc=>
  some c) b
def mv (p0:VI) (p1:VI) (a:Int) (d:Unit):LO Bool Unit:=
 EO (idx p0 a) λb=>
 EO (idx p1 a) λc=>
 bif (b !=c) then
  some (.inl false)
 else
  some (.inr (.inr ()))
def rv (p0:VI) (p1:VI):Option Bool:=
 bif ((p0.length:Int) !=(p1.length:Int)) then
  some false
 else
  EO (cntM (mv p0 p1) p0.length 0 ()) λa=>
  aft some (λb=>
   some true) a
def nR (p0:Parity) (p1:VI):Option Bool:=
 EO (qZ p0 p1) λa=>
 EO (bif a.2 then
 EO (g8 a.1) λc=>
 EO (g8 p0) λd=>
 EO (rv c d) λe=>
 some e
 else
 some false) λb=>
 some b
def jZ (p0:VI) (p1:Int) (a:Int) (b:VB):LO VB VB:=
 EO (idx p0 a) λc=>
 EO (idx b a) λe=>
 EO (setI b a (c==p1)) λd=>
 some (.inr (.inr d))
def ie (p0:VI) (p1:Int):Option VB:=
 EO (mkS 1 (p0.length:Int) false) λc=>
 EO (cntM (jZ p0 p1) p0.length 0 c) λa=>
 aft some (λb=>
  some b) a
def kM (p1:VB) (p2:Int) (c:VB) (a:Int) (f:Unit):LO Bool Unit:=
 EO (idx p1 a) λd=>
 EO (bif d then
 EO (idx c a) λe=>
 some (e !=(p2==0))
 else
 some false) λb=>
 bif b then
  some (.inl false)
 else
  some (.inr (.inr ()))
def pQ (p0:l7Game) (p1:VB) (p2:Int):Option Bool:=
 EO (kO (2 ^ 64) p0 p1) λb=>
 EO (cntM (kM p1 p2 b) p1.length 0 ()) λa=>
 aft some (λc=>
  some true) a
def mu (p0:l7Game) (p1:VB) (p2:Int) (a:Int×VI):LO (Int×VI) (Int×VI):=
 EO (idx p0.next p2) λd=>
 bif decide (a.1<(d.length:Int)) then
  EO (idx p0.next p2) λe=>
  EO (idx e a.1) λb=>
  EO (idx p1 b) λf=>
  bif (!f) then
   some (.inr (.inr ((ET .i64 (a.1+1)),a.2)))
  else
   EO (idx a.2 p2) λj=>
   EO (setI a.2 p2 b) λc=>
   EO (idx p0.owner p2) λg=>
   EO (pQ (⟨p0.owner,p0.prio,p0.next,p0.prev,c⟩:l7Game) p1 g) λi=>
   bif i then
    some (.inl (b,c))
   else
    some (.inr (.inr ((ET .i64 (a.1+1)),c)))
 else
  some (.inr (.inl (a.1,a.2)))
def ru (p0:l7Game) (p1:VB) (p2:Int):Option (Int×VI):=
 EO (bQ (mu p0 p1 p2) (2 ^ 64) ((0:Int),p0.pick)) λa=>
 aft some (λb=>
  some (((-1):Int),b.2)) a
def jM (p0:Parity) (p1:VI) (d:VI) (a:Int) (b:VI):LO (Answer×Bool) VI:=
 EO (idx p1 a) λe=>
 EO (bif (e !=(-1)) then
 EO (idx d a) λf=>
 EO (idx p0.Arena.Owner a) λg=>
 some (f !=g)
 else
 some false) λc=>
 bif c then
  some (.inl (((⟨([]:VI),([]:VI)⟩:Answer):Answer),false))
 else
  EO (idx p1 a) λi=>
  EO (idx b a) λk=>
  EO (setI b a i) λj=>
  some (.inr (.inr j))
def jN (p0:Parity) (e:VI) (b:l7Game) (i:VB) (j:VB) (a:Int) (c:VI):LO (Answer×Bool) VI:=
 EO (idx c a) λk=>
 EO (bif decide (0<=k) then
 some true
 else
 EO (idx e a) λl=>
 EO (idx p0.Arena.Owner a) λm=>
 some (l !=m)) λf=>
 bif f then
  some (.inr (.inr c))
 else
  EO (idx e a) λn=>
  EO (bif (n==1) then
   some j
  else
   some i) λg=>
  EO (ru (⟨b.owner,b.prio,b.next,b.prev,c⟩:l7Game) g a) λd=>
  EO (idx d.2 a) λp=>
  EO (setI d.2 a d.1) λo=>
  some (.inr (.inr o))
def nT (p0:Parity) (p1:VI):Option (Answer×Bool):=
 EO (nR p0 p1) λg=>
 bif (!g) then
  some (((⟨([]:VI),([]:VI)⟩:Answer):Answer),false)
 else
  EO (g8 p0) λa=>
  EO (rT p0) λb=>
  EO (cntM (jM p0 p1 a) p1.length 0 (b.pick:VI)) λc=>
  aft some (λe=>
   EO (ie a 0) λi=>
   EO (ie a 1) λj=>
   EO (cntM (jN p0 a b i j) a.length 0 e) λd=>
   aft some (λf=>
    some (((⟨a,f⟩:Answer):Answer),true)) d) c
def oW (p0:Parity):Option (Answer):=
 EO (jp p0) λc=>
 bif (!c) then
  some ((⟨([]:VI),([]:VI)⟩:Answer):Answer)
 else
  EO (rm (p0.Prio.length:Int)) λa=>
  EO (nT p0 a) λb=>
  some b.1
def fb (p0:Sig):Option Int:=
 EO (eC p0.Out) λa=>
 some a
def n0 (p0:VI) (p1:VL) (p2:Int) (a:Int) (e:Unit):LO Int Unit:=
 EO (idx p0 a) λb=>
 EO (idx p1 b) λc=>
 bif (c.At==p2) then
  EO (idx p0 a) λd=>
  some (.inl d)
 else
  some (.inr (.inr ()))
def sU (p0:VI) (p1:VL) (p2:Int):Option Int:=
 EO (cntM (n0 p0 p1 p2) p0.length 0 ()) λa=>
 aft some (λb=>
  some ((-1):Int)) a
def kG (p0:VI) (p1:Int) (a:Int) (c:Unit):LO Int Unit:=
 EO (idx p0 a) λb=>
 bif (b==p1) then
  some (.inl a)
 else
  some (.inr (.inr ()))
def pH (p0:VI) (p1:Int):Option Int:=
 EO (cntM (kG p0 p1) p0.length 0 ()) λa=>
 aft some (λb=>
  some ((-1):Int)) a
def gk (p0:Sig) (e:Det×Bool) (f:Parity×VL×Bool) (p:Place) (q:Int) (r:Place) (g:Int) (a:VI×VI×Int):LO (Rival×Bool) (VI×VI×Int):=
 EO (fb p0) λi=>
 bif decide (a.2.2<i) then
  EO (idx f.1.Arena.Next q) λj=>
  EO (idx e.1.Next p.At) λk=>
  EO (gl p0 (E0 (ET .i64 (r.At-(e.1.Next.length:Int))) g) a.2.2) λl=>
  EO (idx k l) λm=>
  EO (sU j f.2.1 m) λc=>
  EO (pH a.1 c) λd=>
  EO (bif decide (d<0) then
   EO (appS 8 a.1 ([c]:VI)) λn=>
   some (n,((a.1.length:Int):Int))
  else
   some (a.1,d)) λb=>
  EO (appS 8 a.2.1 ([b.2]:VI)) λo=>
  some (.inr (.inr (b.1,o,(ET .i64 (a.2.2+1)))))
 else
  some (.inr (.inl (a.1,a.2.1,a.2.2)))
def eO (p0:Sig) (e:Det×Bool) (c:Parity×VL×Bool) (m:Answer) (a:VI×Int×VI×VV):LO (Rival×Bool) (VI×Int×VI×VV):=
 bif decide (a.2.1<(a.1.length:Int)) then
  EO (idx a.1 a.2.1) λn=>
  EO (idx c.2.1 n) λo=>
  EO (idx a.1 a.2.1) λp=>
  EO (idx m.Plan p) λf=>
  EO (idx c.2.1 f) λg=>
  EO (eY p0) λb=>
  EO (nz b) λ_z101=>
  EO (bQ (gk p0 e c o f g b) (2 ^ 64) (a.1,([]:VI),(0:Int))) λi=>
  aft (λj=>some (.inl j)) (λd=>
   EO (appS 8 a.2.2.1 ([(E0 (ET .i64 (g.At-(e.1.Next.length:Int))) b)]:VI)) λk=>
   EO (appS 24 a.2.2.2 ([d.2.1]:VV)) λl=>
   some (.inr (.inr (d.1,(ET .i64 (a.2.1+1)),k,l)))) i
 else
  some (.inr (.inl (a.1,a.2.1,a.2.2.1,a.2.2.2)))
def ma (p0:Sig) (p1:VC):Option (Rival×Bool):=
 EO (di p0 p1) λa=>
 EO (gc p0 a.1) λb=>
 EO (go b.1 b.2.1 0) λc=>
 EO (bif (!a.2) then
 some true
 else
 some (!b.2.2)) λf=>
 EO (bif f then
 some true
 else
 some (!c.2.2)) λg=>
 bif g then
  some (((⟨([]:VI),([]:VV)⟩:Rival):Rival),false)
 else
  EO (oW c.1) λe=>
  EO (idx e.Won 0) λj=>
  bif (j==0) then
   some (((⟨([]:VI),([]:VV)⟩:Rival):Rival),false)
  else
   EO (bQ (eO p0 a c e) (2 ^ 64) ((([0]:VI):VI),(0:Int),([]:VI),([]:VV))) λi=>
   aft some (λd=>
    some (((⟨d.2.2.1,d.2.2.2⟩:Rival):Rival),true)) i
def ib (p0:Sig) (p1:VC):Option Int:=
 EO (gT p0 p1) λb=>
 bif b then
  some (0:Int)
 else
  EO (ma p0 p1) λa=>
  bif a.2 then
   some (1:Int)
  else
   some ((-1):Int)
def iF (p0:Sig) (p1:Machine) (a:Int) (l:Unit):LO Bool Unit:=
 EO (idx p1.Next a) λb=>
 EO (cJ p0) λf=>
 EO (bif ((b.length:Int) !=f) then
 some true
 else
 EO (idx p1.Out a) λg=>
 some ((g.length:Int) !=(b.length:Int))) λc=>
 EO (bif c then
 some true
 else
 EO (dD b (p1.Next.length:Int)) λi=>
 some (!i)) λd=>
 EO (bif d then
 some true
 else
 EO (idx p1.Out a) λj=>
 EO (nn p0.Out) λ_z64=>
 EO (dD j (ET .i64 (1 * 2 ^ (min (ES p0.Out) (E1 E2))))) λk=>
 some (!k)) λe=>
 bif e then
  some (.inl false)
 else
  some (.inr (.inr ()))
def lP (p0:Sig) (p1:Machine):Option Bool:=
 EO (bif decide ((p1.Next.length:Int)<1) then
 some true
 else
 some (decide (48<(p1.Next.length:Int)))) λa=>
 EO (bif a then
 some true
 else
 some ((p1.Out.length:Int) !=(p1.Next.length:Int))) λb=>
 bif b then
  some false
 else
  EO (cntM (iF p0 p1) p1.Next.length 0 ()) λc=>
  aft some (λd=>
   some true) c
def kg (p0:Sig) (p1:Rival) (c:Int) (e:Unit):LO Bool Unit:=
 EO (idx p1.Next c) λa=>
 EO (nn p0.Out) λ_z45=>
 EO (bif ((a.length:Int) !=(ET .i64 (1 * 2 ^ (min (ES p0.Out) (E1 E2))))) then
 some true
 else
 EO (dD a (p1.In.length:Int)) λd=>
 some (!d)) λb=>
 bif b then
  some (.inl false)
 else
  some (.inr (.inr ()))
def kQ (p0:Sig) (p1:Rival):Option Bool:=
 EO (bif decide ((p1.In.length:Int)<1) then
 some true
 else
 some (decide (256<(p1.In.length:Int)))) λa=>
 EO (bif a then
 some true
 else
 some ((p1.Next.length:Int) !=(p1.In.length:Int))) λb=>
 EO (bif b then
 some true
 else
 EO (cJ p0) λe=>
 EO (dD p1.In e) λf=>
 some (!f)) λc=>
 bif c then
  some false
 else
  EO (cntM (kg p0 p1) p1.Next.length 0 ()) λd=>
  aft some (λg=>
   some true) d
def mS (p0:VI) (p1:Int):Option (Word×Bool):=
 EO (bif decide (600<p1) then
 some true
 else
 some (decide (600<(ET .i64 ((p0.length:Int)-p1))))) λa=>
 bif a then
  some (((⟨([]:VI),([]:VI)⟩:Word):Word),false)
 else
  EO (subS p0 0 p1) λb=>
  EO (subS p0 p1 (p0.length:Int)) λd=>
  EO (appS 8 ([]:VI) b) λc=>
  EO (appS 8 ([]:VI) d) λe=>
  some (((⟨c,e⟩:Word):Word),true)
def j4 (p0:Sig) (p1:Machine) (p2:Rival) (a:VI×Int×Int×(List ((Int×Int)×Int))):LO (Word×Bool) (VI×Int×Int×(List ((Int×Int)×Int))):=
 EO (mget kwI2 a.2.2.2 ((a.2.1,a.2.2.1):(Int×Int)) (0:Int)) λc=>
 bif c.2 then
  EO (mS a.1 c.1) λd=>
  some (.inl (d.1,d.2))
 else
  EO (mset kwI2 a.2.2.2 ((a.2.1,a.2.2.1):(Int×Int)) (a.1.length:Int)) λn=>
  EO (idx p2.In a.2.2.1) λb=>
  EO (idx p1.Out a.2.1) λf=>
  EO (idx f b) λe=>
  EO (cJ p0) λg=>
  EO (appS 8 a.1 ([(ET .i64 ((ET .i64 (e * g))+b))]:VI)) λi=>
  EO (idx p1.Next a.2.1) λj=>
  EO (idx j b) λk=>
  EO (idx p2.Next a.2.2.1) λl=>
  EO (idx l e) λm=>
  some (.inr (.inr (i,k,m,n)))
def qy (p0:Sig) (p1:Machine) (p2:Rival):Option (Word×Bool):=
 EO (kh p0) λd=>
 EO (bif (!d) then
 some true
 else
 EO (lP p0 p1) λe=>
 some (!e)) λa=>
 EO (bif a then
 some true
 else
 EO (kQ p0 p2) λf=>
 some (!f)) λb=>
 bif b then
  some (((⟨([]:VI),([]:VI)⟩:Word):Word),false)
 else
  EO (bQ (j4 p0 p1 p2) (2 ^ 64) (([]:VI),(0:Int),(0:Int),(([]:List ((Int×Int)×Int)):(List ((Int×Int)×Int))))) λc=>
  aft some (λg=>
   none) c
def pK (p0:Word) (p1:Int):Option Bool:=
 EO (bif decide (600<(p0.Stem.length:Int)) then
 some true
 else
 some (decide (600<(p0.Loop.length:Int)))) λa=>
 EO (bif a then
 some true
 else
 some ((p0.Loop.length:Int)==0)) λb=>
 bif b then
  some false
 else
  EO (gq p0.Stem p1) λd=>
  EO (bif d then
  EO (gq p0.Loop p1) λe=>
  some e
  else
  some false) λc=>
  some c
def lu (p0:Sig) (p1:Word):Option Bool:=
 EO (jP p0) λd=>
 EO (bif d then
 EO (dI p0) λb=>
 EO (pK p1 b) λc=>
 some c
 else
 some false) λa=>
 some a
def kI (p0:VI) (p1:VI) (a:Int) (d:Unit):LO Bool Unit:=
 EO (idx p0 a) λb=>
 EO (ee p1 b) λc=>
 bif (!c) then
  some (.inl false)
 else
  some (.inr (.inr ()))
def m9 (p0:VI) (p1:VI):Option Bool:=
 EO (cntM (kI p0 p1) p0.length 0 ()) λa=>
 aft some (λb=>
  some true) a
def kJ (p0:Clause) (p1:VI) (p2:Int) (a:Int) (i:Unit):LO Bool Unit:=
 EO (bif decide ((ET .i64 (a+1))<(p1.length:Int)) then
  some (ET .i64 (a+1))
 else
  some p2) λc=>
 EO (idx p1 a) λd=>
 EO (ee p0.A d) λe=>
 EO (bif e then
 EO (idx p1 c) λf=>
 EO (ee p0.B f) λg=>
 some (!g)
 else
 some false) λb=>
 bif b then
  some (.inl false)
 else
  some (.inr (.inr ()))
def pL (p0:Clause) (p1:VI) (p2:Int):Option Bool:=
 EO (cntM (kJ p0 p1 p2) p1.length 0 ()) λa=>
 aft some (λb=>
  some true) a
def kK (p0:VI) (p1:VI) (a:Int) (d:Unit):LO Bool Unit:=
 EO (idx p0 a) λb=>
 EO (ee p1 b) λc=>
 bif c then
  some (.inl true)
 else
  some (.inr (.inr ()))
def gF (p0:VI) (p1:VI):Option Bool:=
 EO (cntM (kK p0 p1) p0.length 0 ()) λa=>
 aft some (λb=>
  some false) a
def i9 (p0:Clause) (p2:VI) (a:Int) (g:Unit):LO Bool Unit:=
 EO (idx p2 a) λc=>
 EO (ee p0.A c) λd=>
 EO (bif d then
 EO (subS p2 a (p2.length:Int)) λe=>
 EO (gF e p0.B) λf=>
 some (!f)
 else
 some false) λb=>
 bif b then
  some (.inl false)
 else
  some (.inr (.inr ()))
def mo (p0:Clause) (p1:Word) (p2:VI):Option Bool:=
 EO (gF p1.Loop p0.B) λb=>
 bif b then
  some true
 else
  EO (cntM (i9 p0 p2) p2.length 0 ()) λa=>
  aft some (λc=>
   some true) a
def pD (p0:Sig) (p1:Clause) (p2:Word):Option Bool:=
 EO (jo p0 p1) λd=>
 EO (bif (!d) then
 some true
 else
 EO (lu p0 p2) λe=>
 some (!e)) λb=>
 bif b then
  some false
 else
  EO (dj p2.Stem) λf=>
  EO (appS 8 f p2.Loop) λa=>
  bif (p1.Kind==1) then
   EO (m9 a p1.A) λg=>
   some g
  else
   bif (p1.Kind==2) then
    EO (pL p1 a (p2.Stem.length:Int)) λi=>
    some i
   else
    bif (p1.Kind==3) then
     EO (mo p1 p2 a) λj=>
     some j
    else
     bif (p1.Kind==4) then
      EO (gF p2.Loop p1.A) λk=>
      some k
     else
      bif (p1.Kind==5) then
       EO (m9 p2.Loop p1.A) λl=>
       some l
      else
       bif (p1.Kind==6) then
        EO (gF a p1.A) λm=>
        some m
       else
        EO (gF p2.Loop p1.A) λn=>
        EO (bif (!n) then
        some true
        else
        EO (gF p2.Loop p1.B) λo=>
        some o) λc=>
        some c
def gB (p0:Sig) (p1:VC) (p2:Word) (a:Int) (d:Unit):LO Int Unit:=
 EO (idx p1 a) λb=>
 EO (pD p0 b p2) λc=>
 bif (!c) then
  some (.inl a)
 else
  some (.inr (.inr ()))
def jK (p0:Sig) (p1:VC) (p2:Word):Option Int:=
 EO (ga p0 p1) λc=>
 EO (bif (!c) then
 some true
 else
 EO (lu p0 p2) λd=>
 some (!d)) λa=>
 bif a then
  some ((-2):Int)
 else
  EO (cntM (gB p0 p1 p2) p1.length 0 ()) λb=>
  aft some (λe=>
   some ((-1):Int)) b
def mY (p0:Sig) (p1:VC) (p2:Word):Option Bool:=
 EO (jK p0 p1 p2) λa=>
 some ((a==(-1)):Bool)
def kj (p1:VI) (c:Int) (a:VB):LO VB VB:=
 EO (idx p1 c) λb=>
 EO (idx a b) λe=>
 EO (setI a b true) λd=>
 some (.inr (.inr d))
def rF (p0:VB) (p1:VI):Option VB:=
 EO (cntM (kj p1) p1.length 0 p0) λa=>
 aft some (λb=>
  some b) a
def oD (p0:Int) (c0:VI):Option VI:=
 EO (appS 8 c0 ([p0]:VI)) λa=>
 some a
def bW (rc:Int->VV->VI->VB->VB->Option (VI×VB)) (p1:VV) (c1:VB) (g:VI) (f:Int) (a:VI×VB):LO (VI×VB) (VI×VB):=
 EO (idx g f) λb=>
 EO (idx c1 b) λi=>
 EO (bif i then
 EO (idx a.2 b) λj=>
 some (!j)
 else
 some false) λe=>
 EO (bif e then
  EO (rc b p1 a.1 a.2 c1) λd=>
  some (d.1,d.2)
 else
  some (a.1,a.2)) λc=>
 some (.inr (.inr (c.1,c.2)))
def bX (rc:Int->VV->VI->VB->VB->Option (VI×VB)) (p0:Int) (p1:VV) (c:VI) (c0:VB) (c1:VB):Option (VI×VB):=
 EO (idx c0 p0) λg=>
 EO (setI c0 p0 true) λf=>
 EO (idx p1 p0) λb=>
 EO (cntM (bW rc p1 c1 b) b.length 0 (c,f)) λd=>
 aft some (λa=>
  EO (oD p0 a.1) λe=>
  some (e,a.2)) d
def bN:Nat->Int->VV->VI->VB->VB->Option (VI×VB)
 |0=>λ_ _ _ _ _=>none
 |n+1=>bX (bN n)
def r6 (p0:Int) (c0:VI):Option VI:=
 EO (appS 8 c0 ([p0]:VI)) λa=>
 some a
def cO (rc:Int->VV->VI->VB->VB->Option (VI×VB)) (p1:VV) (c1:VB) (g:VI) (f:Int) (a:VI×VB):LO (VI×VB) (VI×VB):=
 EO (idx g f) λb=>
 EO (idx c1 b) λi=>
 EO (bif i then
 EO (idx a.2 b) λj=>
 some (!j)
 else
 some false) λe=>
 EO (bif e then
  EO (rc b p1 a.1 a.2 c1) λd=>
  some (d.1,d.2)
 else
  some (a.1,a.2)) λc=>
 some (.inr (.inr (c.1,c.2)))
def cD (rc:Int->VV->VI->VB->VB->Option (VI×VB)) (p0:Int) (p1:VV) (c:VI) (c0:VB) (c1:VB):Option (VI×VB):=
 EO (idx c0 p0) λg=>
 EO (setI c0 p0 true) λf=>
 EO (idx p1 p0) λb=>
 EO (cntM (cO rc p1 c1 b) b.length 0 (c,f)) λd=>
 aft some (λa=>
  EO (r6 p0 a.1) λe=>
  some (e,a.2)) d
def bV:Nat->Int->VV->VI->VB->VB->Option (VI×VB)
 |0=>λ_ _ _ _ _=>none
 |n+1=>cD (bV n)
def eG (p0:VV):Option VV:=
 if p0.length<4611686018427387904/\(p0.all λa=> !a.isEmpty)=true then some (p0.mergeSort leI) else none
def ki (p1:VB) (c:Int) (g:VI) (f:Int) (a:VV):LO VV VV:=
 EO (idx g f) λb=>
 EO (idx p1 c) λi=>
 EO (bif i then
 EO (idx p1 b) λj=>
 some j
 else
 some false) λd=>
 EO (bif d then
  EO (idx a b) λk=>
  EO (appS 8 k ([c]:VI)) λl=>
  EO (idx a b) λn=>
  EO (setI a b l) λm=>
  some m
 else
  some a) λe=>
 some (.inr (.inr e))
def gx (p0:VV) (p1:VB) (a:Int) (e:VV):LO VV VV:=
 EO (idx p0 a) λb=>
 EO (cntM (ki p1 a b) b.length 0 e) λc=>
 aft (λd=>some (.inl d)) (λf=>
  some (.inr (.inr f))) c
def iJ (p0:VV) (p1:VB) (b:Int) (a:VI×VB):LO VV (VI×VB):=
 EO (idx p1 b) λf=>
 EO (bif f then
 EO (idx a.2 b) λg=>
 some (!g)
 else
 some false) λe=>
 EO (bif e then
  EO (bN (2 ^ 64) b p0 a.1 a.2 p1) λd=>
  some (d.1,d.2)
 else
  some (a.1,a.2)) λc=>
 some (.inr (.inr (c.1,c.2)))
def dS (p0:VV) (p1:VB) (g:VV) (f:VI×VB) (a:VV×Int×VB):LO VV (VV×Int×VB):=
 bif decide (0<=a.2.1) then
  EO (idx f.1 a.2.1) λb=>
  EO (idx a.2.2 b) λi=>
  bif i then
   some (.inr (.inr (a.1,(ET .i64 (a.2.1-1)),a.2.2)))
  else
   EO (bV (2 ^ 64) b g ([]:VI) a.2.2 p1) λc=>
   EO (cq c.1) λj=>
   EO (bif decide (1<(c.1.length:Int)) then
   some true
   else
   EO (idx p0 b) λk=>
   EO (bP k b) λl=>
   some l) λd=>
   EO (bif d then
    EO (appS 24 a.1 ([j]:VV)) λm=>
    some m
   else
    some a.1) λe=>
   some (.inr (.inr (e,(ET .i64 (a.2.1-1)),c.2)))
 else
  some (.inr (.inl (a.1,a.2.1,a.2.2)))
def po (p0:VV) (p1:VB):Option VV:=
 EO (mkS 24 (p0.length:Int) ([]:VI)) λi=>
 EO (cntM (gx p0 p1) p0.length 0 i) λc=>
 aft some (λf=>
  EO (mkS 1 (p0.length:Int) false) λj=>
  EO (cntM (iJ p0 p1) p0.length 0 (([]:VI),j)) λd=>
  aft some (λa=>
   EO (mkS 1 (p0.length:Int) false) λk=>
   EO (bQ (dS p0 p1 f a) (2 ^ 64) (([]:VV),(ET .i64 ((a.1.length:Int)-1)),k)) λb=>
   aft some (λe=>
    EO (eG e.1) λg=>
    some g) b) d) c
def fj (p0:Int):Option Bool:=
 some ((p0 !=p0):Bool)
def iy (p0:Int) (p1:Int):Option Bool:=
 EO (fj p0) λc=>
 EO (bif c then
 EO (fj p1) λd=>
 some (!d)
 else
 some false) λa=>
 EO (bif a then
 some true
 else
 some (decide (p0<p1))) λb=>
 some b
def ec (p0:Int):Option Bool:=
 some ((p0 !=p0):Bool)
def cW (p0:VI) (p1:Int) (a:Int×Int):LO (Int×Bool) (Int×Int):=
 bif decide (a.1<a.2) then
  EO (idx p0 (ET .i64 (Int.fdiv (ET .u64 (ET .i64 (a.1+a.2))) (2 ^ (min (ES 1) (E1 E3)))))) λc=>
  EO (iy c p1) λd=>
  EO (bif d then
   some (((ET .i64 ((ET .i64 (Int.fdiv (ET .u64 (ET .i64 (a.1+a.2))) (2 ^ (min (ES 1) (E1 E3)))))+1)):Int),a.2)
  else
   some (a.1,((ET .i64 (Int.fdiv (ET .u64 (ET .i64 (a.1+a.2))) (2 ^ (min (ES 1) (E1 E3))))):Int))) λb=>
  some (.inr (.inr (b.1,b.2)))
 else
  some (.inr (.inl (a.1,a.2)))
def dp (p0:VI) (p1:Int):Option (Int×Bool):=
 EO (bQ (cW p0 p1) (2 ^ 64) ((0:Int),((p0.length:Int):Int))) λe=>
 aft some (λa=>
  EO (bif decide (a.1<(p0.length:Int)) then
  EO (idx p0 a.1) λf=>
  EO (bif (f==p1) then
  some true
  else
  EO (idx p0 a.1) λg=>
  EO (ec g) λi=>
  EO (bif i then
  EO (ec p1) λj=>
  some j
  else
  some false) λb=>
  some b) λc=>
  some c
  else
  some false) λd=>
  some (a.1,d)) e
def lS (p0:VI) (p1:VI) (d:Int) (a:VI):LO VI VI:=
 EO (idx p0 d) λb=>
 EO (dp p1 b) λe=>
 EO (bif (!e.2) then
  EO (appS 8 a ([b]:VI)) λf=>
  some f
 else
  some a) λc=>
 some (.inr (.inr c))
def oC (p0:VI) (p1:VI):Option VI:=
 EO (cntM (lS p0 p1) p0.length 0 ([]:VI)) λa=>
 aft some (λb=>
  some b) a
def pp (p0:VI) (p1:VI):Option Bool:=
 EO (oC p0 p1) λa=>
 some (decide ((a.length:Int)<(p0.length:Int)):Bool)
def jE (p0:VP) (p1:VI) (b:Int) (a:VI):LO VI VI:=
 EO (idx p0 b) λc=>
 EO (pp p1 c.Ask) λf=>
 EO (bif f then
 EO (pp p1 c.Give) λg=>
 some (!g)
 else
 some false) λd=>
 EO (bif d then
  EO (appS 8 a ([b]:VI)) λi=>
  some i
 else
  some a) λe=>
 some (.inr (.inr e))
def kX (p0:VP) (p1:VI):Option VI:=
 EO (cntM (jE p0 p1) p0.length 0 ([]:VI)) λa=>
 aft some (λb=>
  some b) a
def ip (p1:VP) (c:VI) (b:Int) (a:VI):LO Bool VI:=
 EO (idx c b) λd=>
 EO (idx p1 d) λe=>
 EO (oC a e.Ask) λf=>
 some (.inr (.inr f))
def dV (rc:VV->VP->VI->Option Bool) (p0:VV) (p1:VP) (i:VV) (g:Int) (k:Unit):LO Bool Unit:=
 EO (idx i g) λa=>
 EO (kX p1 a) λc=>
 EO (cntM (ip p1 c) c.length 0 a) λe=>
 aft (λf=>some (.inl f)) (λb=>
  EO (bif ((b.length:Int)==(a.length:Int)) then
  some true
  else
  EO (rc p0 p1 b) λj=>
  some j) λd=>
  bif d then
   some (.inl true)
  else
   some (.inr (.inr ()))) e
def kZ (rc:VV->VP->VI->Option Bool) (p0:VV) (p1:VP) (p2:VI):Option Bool:=
 EO (mkS 1 (p0.length:Int) false) λc=>
 EO (rF c p2) λd=>
 EO (po p0 d) λa=>
 EO (cntM (dV rc p0 p1 a) a.length 0 ()) λb=>
 aft some (λe=>
  some false) b
def dZ:Nat->VV->VP->VI->Option Bool
 |0=>λ_ _ _=>none
 |n+1=>kZ (dZ n)
def gK (p0:Sig) (p1:Rival) (j:Det×Bool) (k:(Int×Int)) (l:(Int×Int)) (m:VI) (e:Int) (a:(List (Int×Int))×VI×(List ((Int×Int)×Int))):LO Bool ((List (Int×Int))×VI×(List ((Int×Int)×Int))):=
 EO (idx m e) λc=>
 EO (idx j.1.Next l.2) λn=>
 EO (idx p1.In k.1) λp=>
 EO (cJ p0) λo=>
 EO (idx n (ET .i64 ((ET .i64 (e * o))+p))) λd=>
 EO (mget kwI2 a.2.2 ((c,d):(Int×Int)) (0:Int)) λf=>
 EO (bif (!f.2) then
  EO (mset kwI2 a.2.2 ((c,d):(Int×Int)) (a.1.length:Int)) λq=>
  EO (appS 16 a.1 ([(c,d)]:List (Int×Int))) λg=>
  some (g,((a.1.length:Int):Int),q)
 else
  some (a.1,f.1,a.2.2)) λb=>
 EO (appS 8 a.2.1 ([b.2.1]:VI)) λi=>
 some (.inr (.inr (b.1,i,b.2.2)))
def gJ (p0:Sig) (p1:Rival) (i:Det×Bool) (a:(List (Int×Int))×VV×Int×(List ((Int×Int)×Int))):LO Bool ((List (Int×Int))×VV×Int×(List ((Int×Int)×Int))):=
 bif decide (a.2.2.1<(a.1.length:Int)) then
  EO (idx a.1 a.2.2.1) λc=>
  EO (idx a.1 a.2.2.1) λj=>
  EO (idx p1.Next c.1) λd=>
  EO (cntM (gK p0 p1 i c j d) d.length 0 (a.1,([]:VI),a.2.2.2)) λe=>
  aft (λf=>some (.inl f)) (λb=>
   bif decide (256<(b.1.length:Int)) then
    some (.inl false)
   else
    EO (appS 24 a.2.1 ([b.2.1]:VV)) λg=>
    some (.inr (.inr (b.1,g,(ET .i64 (a.2.2.1+1)),b.2.2)))) e
 else
  some (.inr (.inl (a.1,a.2.1,a.2.2.1,a.2.2.2)))
def jy (g:(List (Int×Int))×VV×Int×(List ((Int×Int)×Int))) (c:Pair) (b:Int) (a:VI×VI):LO Bool (VI×VI):=
 EO (idx g.1 b) λd=>
 EO (bP c.Ask d.2) λi=>
 EO (bif i then
  EO (appS 8 a.1 ([b]:VI)) λj=>
  some j
 else
  some a.1) λe=>
 EO (bP c.Give d.2) λk=>
 EO (bif k then
  EO (appS 8 a.2 ([b]:VI)) λl=>
  some l
 else
  some a.2) λf=>
 some (.inr (.inr (e,f)))
def gL (j:Det×Bool) (b:(List (Int×Int))×VV×Int×(List ((Int×Int)×Int))) (f:Int) (e:VP):LO Bool VP:=
 EO (idx j.1.Pairs f) λg=>
 EO (cntM (jy b g) b.1.length 0 (([]:VI),([]:VI))) λc=>
 aft (λd=>some (.inl d)) (λa=>
  EO (appS 48 e ([(⟨a.1,a.2⟩:Pair)]:VP)) λi=>
  some (.inr (.inr i))) c
def nj (p0:Sig) (p1:Rival) (p2:VC):Option Bool:=
 EO (kh p0) λj=>
 EO (bif (!j) then
 some true
 else
 EO (kQ p0 p1) λk=>
 some (!k)) λc=>
 bif c then
  some false
 else
  EO (c8 p0 p2) λa=>
  bif (!a.2) then
   some false
  else
   EO (mset kwI2 ([]:List ((Int×Int)×Int)) ((0,0):(Int×Int)) 0) λl=>
   EO (bQ (gJ p0 p1 a) (2 ^ 64) ((([(0,0)]:List (Int×Int)):(List (Int×Int))),([]:VV),(0:Int),l)) λd=>
   aft some (λb=>
    EO (cntM (gL a b) a.1.Pairs.length 0 ([]:VP)) λe=>
    aft some (λf=>
     EO (pl (b.2.1.length:Int)) λg=>
     EO (dZ (2 ^ 64) b.2.1 f g) λi=>
     some (!i)) e) d
def kA (p0:Sig) (p1:Rival) (a:Int) (g:Unit):LO Bool Unit:=
 EO (idx p1.Next a) λc=>
 EO (fb p0) λd=>
 EO (bif ((c.length:Int) !=d) then
 some true
 else
 EO (idx p1.Next a) λe=>
 EO (gq e (p1.In.length:Int)) λf=>
 some (!f)) λb=>
 bif b then
  some (.inl false)
 else
  some (.inr (.inr ()))
def pE (p0:Sig) (p1:Rival):Option Bool:=
 EO (jP p0) λe=>
 EO (bif (!e) then
 some true
 else
 EO (fF (p1.In.length:Int) 1 256) λf=>
 some (!f)) λa=>
 EO (bif a then
 some true
 else
 some ((p1.Next.length:Int) !=(p1.In.length:Int))) λb=>
 EO (bif b then
 some true
 else
 EO (eY p0) λg=>
 EO (gq p1.In g) λi=>
 some (!i)) λc=>
 bif c then
  some false
 else
  EO (cntM (kA p0 p1) p1.Next.length 0 ()) λd=>
  aft some (λj=>
   some true) d
def kE (p0:VI) (c:Int) (a:VB):LO VB VB:=
 EO (idx p0 c) λb=>
 EO (idx a b) λe=>
 EO (setI a b true) λd=>
 some (.inr (.inr d))
def m8 (p0:VI) (p1:Int):Option VB:=
 EO (mkS 1 p1 false) λc=>
 EO (cntM (kE p0) p0.length 0 c) λa=>
 aft some (λb=>
  some b) a
def gV (p0:VV) (p1:VB) (d:Int) (a:VI×Int×VB):LO VB (VI×Int×VB):=
 EO (idx p0 d) λf=>
 bif decide (a.2.1<(f.length:Int)) then
  EO (idx p0 d) λg=>
  EO (idx g a.2.1) λb=>
  EO (idx p1 b) λi=>
  EO (bif i then
  EO (idx a.2.2 b) λj=>
  some (!j)
  else
  some false) λe=>
  EO (bif e then
   EO (idx a.2.2 b) λm=>
   EO (setI a.2.2 b true) λl=>
   EO (appS 8 a.1 ([b]:VI)) λk=>
   some (k,l)
  else
   some (a.1,a.2.2)) λc=>
  some (.inr (.inr (c.1,(ET .i64 (a.2.1+1)),c.2)))
 else
  some (.inr (.inl (a.1,a.2.1,a.2.2)))
def jR (p0:VV) (p1:VB) (a:VI×VB):LO VB (VI×VB):=
 bif decide (0<(a.1.length:Int)) then
  EO (idx a.1 (ET .i64 ((a.1.length:Int)-1))) λe=>
  EO (subS a.1 0 (ET .i64 ((a.1.length:Int)-1))) λf=>
  EO (bQ (gV p0 p1 e) (2 ^ 64) (f,(0:Int),a.2)) λc=>
  aft (λd=>some (.inl d)) (λb=>
   some (.inr (.inr (b.1,b.2.2)))) c
 else
  some (.inr (.inl (a.1,a.2)))
def lw (p0:VV) (p1:VB) (p2:VI):Option VB:=
 EO (mkS 1 (p0.length:Int) false) λc=>
 EO (dj p2) λd=>
 EO (bQ (jR p0 p1) (2 ^ 64) (d,c)) λa=>
 aft some (λb=>
  some b.2) a
def na (p0:VI) (p1:VI):Option Bool:=
 EO (jO p0 256) λb=>
 EO (bif b then
 EO (jO p1 256) λc=>
 some c
 else
 some false) λa=>
 some a
def mf (p0:VI) (p1:VI) (b:Int) (a:VI):LO VI VI:=
 EO (idx p0 b) λd=>
 EO (ee p1 d) λe=>
 EO (bif e then
  EO (idx p0 b) λf=>
  EO (appS 8 a ([f]:VI)) λg=>
  some g
 else
  some a) λc=>
 some (.inr (.inr c))
def m0 (p0:VI) (p1:VI):Option VI:=
 EO (na p0 p1) λc=>
 bif (!c) then
  some ([]:VI)
 else
  EO (cntM (mf p0 p1) p0.length 0 ([]:VI)) λa=>
  aft some (λb=>
   some b) a
def l9 (p1:VI) (b:Int) (a:VI):LO VI VI:=
 EO (idx p1 b) λc=>
 EO (gW a c) λd=>
 some (.inr (.inr d))
def qX (p0:VI) (p1:VI):Option VI:=
 EO (na p0 p1) λd=>
 bif (!d) then
  some ([]:VI)
 else
  EO (dj p0) λc=>
  EO (cntM (l9 p1) p1.length 0 c) λa=>
  aft some (λb=>
   some b) a
def kL (p0:VP) (p1:VI) (b:Int) (a:VI):LO VI VI:=
 EO (idx p0 b) λf=>
 EO (m0 p1 f.Ask) λc=>
 EO (bif decide (0<(c.length:Int)) then
 EO (idx p0 b) λg=>
 EO (m0 p1 g.Give) λi=>
 some ((i.length:Int)==0)
 else
 some false) λd=>
 EO (bif d then
  EO (qX a c) λj=>
  some j
 else
  some a) λe=>
 some (.inr (.inr e))
def pP (p0:VP) (p1:VI):Option VI:=
 EO (cntM (kL p0 p1) p0.length 0 ([]:VI)) λa=>
 aft some (λb=>
  some b) a
def kC (p0:VV) (c:VB) (b:Int) (a:(List VB)):LO VV ((List VB)):=
 EO (idx c b) λe=>
 EO (bif e then
  EO (lw p0 c ([b]:VI)) λf=>
  EO (appS 24 a ([f]:List VB)) λg=>
  some g
 else
  EO (appS 24 a ([([]:VB)]:List VB)) λi=>
  some i) λd=>
 some (.inr (.inr d))
def iZ (p1:VI) (d:(List VB)) (e:Int) (g:Int) (a:VI×VB):LO VV (VI×VB):=
 EO (idx p1 g) λb=>
 EO (idx d e) λj=>
 EO (idx j b) λk=>
 EO (bif k then
 EO (idx d b) λl=>
 EO (idx l e) λm=>
 some m
 else
 some false) λf=>
 EO (bif f then
  EO (appS 8 a.1 ([b]:VI)) λi=>
  EO (idx a.2 b) λo=>
  EO (setI a.2 b true) λn=>
  some (i,n)
 else
  some (a.1,a.2)) λc=>
 some (.inr (.inr (c.1,c.2)))
def kD (p1:VI) (d:(List VB)) (i:Int) (a:VV×VB):LO VV (VV×VB):=
 EO (idx p1 i) λb=>
 EO (idx a.2 b) λk=>
 EO (bif k then
 some true
 else
 EO (idx d b) λl=>
 EO (idx l b) λm=>
 some (!m)) λe=>
 bif e then
  some (.inr (.inr (a.1,a.2)))
 else
  EO (cntM (iZ p1 d b) p1.length 0 (([]:VI),a.2)) λf=>
  aft (λg=>some (.inl g)) (λc=>
   EO (appS 24 a.1 ([c.1]:VV)) λj=>
   some (.inr (.inr (j,c.2)))) f
def pG (p0:VV) (p1:VI):Option VV:=
 EO (m8 p1 (p0.length:Int)) λe=>
 EO (cntM (kC p0 e) p0.length 0 ([]:List VB)) λa=>
 aft some (λc=>
  EO (mkS 1 (p0.length:Int) false) λf=>
  EO (cntM (kD p1 c) p1.length 0 (([]:VV),f)) λb=>
  aft some (λd=>
   some d.1) b) a
def me (p0:VI) (p1:VI) (b:Int) (a:VI):LO VI VI:=
 EO (idx p0 b) λd=>
 EO (ee p1 d) λe=>
 EO (bif (!e) then
  EO (idx p0 b) λf=>
  EO (appS 8 a ([f]:VI)) λg=>
  some g
 else
  some a) λc=>
 some (.inr (.inr c))
def qY (p0:VI) (p1:VI):Option VI:=
 EO (na p0 p1) λc=>
 bif (!c) then
  some ([]:VI)
 else
  EO (cntM (me p0 p1) p0.length 0 ([]:VI)) λa=>
  aft some (λb=>
   some b) a
def dF (rc:VV->VP->VI->Option Bool) (p0:VV) (p1:VP) (b:VV) (a:Int) (j:Unit):LO Bool Unit:=
 EO (idx b a) λe=>
 EO (pP p1 e) λc=>
 EO (bif ((c.length:Int)==0) then
 some true
 else
 EO (idx b a) λf=>
 EO (qY f c) λg=>
 EO (rc p0 p1 g) λi=>
 some i) λd=>
 bif d then
  some (.inl true)
 else
  some (.inr (.inr ()))
def j7 (rc:VV->VP->VI->Option Bool) (p0:VV) (p1:VP) (p2:VI):Option Bool:=
 EO (pG p0 p2) λa=>
 EO (cntM (dF rc p0 p1 a) a.length 0 ()) λb=>
 aft some (λc=>
  some false) b
def dC:Nat->VV->VP->VI->Option Bool
 |0=>λ_ _ _=>none
 |n+1=>j7 (dC n)
def gR (p0:Sig) (p1:Rival) (i:Det×Bool) (b:VV×VV×Int) (a:VV×VI×Int):LO Bool (VV×VI×Int):=
 EO (fb p0) λj=>
 bif decide (a.2.2<j) then
  EO (idx a.1 b.2.2) λk=>
  EO (idx a.1 b.2.2) λn=>
  EO (idx k 0) λl=>
  EO (idx i.1.Next l) λm=>
  EO (idx n 1) λo=>
  EO (idx p1.In o) λp=>
  EO (gl p0 p a.2.2) λq=>
  EO (idx m q) λd=>
  EO (idx a.1 b.2.2) λr=>
  EO (idx r 1) λs=>
  EO (idx p1.Next s) λt=>
  EO (idx t a.2.2) λe=>
  EO (js a.1 d e) λf=>
  EO (bif decide (f<0) then
   EO (appS 24 a.1 ([([d,e]:VI)]:VV)) λu=>
   some (u,((a.1.length:Int):Int))
  else
   some (a.1,f)) λc=>
  EO (gW a.2.1 c.2) λg=>
  some (.inr (.inr (c.1,g,(ET .i64 (a.2.2+1)))))
 else
  some (.inr (.inl (a.1,a.2.1,a.2.2)))
def gQ (p0:Sig) (p1:Rival) (f:Det×Bool) (a:VV×VV×Int):LO Bool (VV×VV×Int):=
 bif decide (a.2.2<(a.1.length:Int)) then
  EO (bQ (gR p0 p1 f a) (2 ^ 64) (a.1,([]:VI),(0:Int))) λc=>
  aft (λd=>some (.inl d)) (λb=>
   bif decide (256<(b.1.length:Int)) then
    some (.inl false)
   else
    EO (appS 24 a.2.1 ([b.2.1]:VV)) λe=>
    some (.inr (.inr (b.1,e,(ET .i64 (a.2.2+1)))))) c
 else
  some (.inr (.inl (a.1,a.2.1,a.2.2)))
def nM (p0:Sig) (p1:Rival) (p2:VC):Option Bool:=
 EO (di p0 p2) λb=>
 EO (bif (!b.2) then
 some true
 else
 EO (pE p0 p1) λi=>
 some (!i)) λc=>
 bif c then
  some false
 else
  EO (bQ (gQ p0 p1 b) (2 ^ 64) ((([([0,0]:VI)]:VV):VV),([]:VV),(0:Int))) λd=>
  aft some (λa=>
   EO (jr b.1.Pairs a.1 0) λe=>
   EO (nL (a.1.length:Int)) λf=>
   EO (dC (2 ^ 64) a.2.1 e f) λg=>
   some (!g)) d
def oI (p0:dice) (p1:Int) (a:Int×Int×Int×VI):LO (Word×Int×Int) (Int×Int×Int×VI):=
 bif decide (0<a.1) then
  EO (cu (⟨p0.b,a.2.1,a.2.2.1⟩:dice) p1) λb=>
  EO (appS 8 a.2.2.2 ([b.1]:VI)) λc=>
  some (.inr (.inr ((ET .i64 (a.1-1)),b.2.1,b.2.2,c)))
 else
  some (.inr (.inl (a.1,a.2.1,a.2.2.1,a.2.2.2)))
def oJ (p0:dice) (p1:Int) (a:Int×Int×Int×VI):LO (Word×Int×Int) (Int×Int×Int×VI):=
 bif decide (0<a.1) then
  EO (cu (⟨p0.b,a.2.1,a.2.2.1⟩:dice) p1) λb=>
  EO (appS 8 a.2.2.2 ([b.1]:VI)) λc=>
  some (.inr (.inr ((ET .i64 (a.1-1)),b.2.1,b.2.2,c)))
 else
  some (.inr (.inl (a.1,a.2.1,a.2.2.1,a.2.2.2)))
def qM (p0:dice) (p1:Int):Option (Word×Int×Int):=
 EO (cu p0 4) λc=>
 EO (bQ (oI p0 p1) (2 ^ 64) (c.1,c.2.1,c.2.2,([]:VI))) λe=>
 aft some (λa=>
  EO (cu (⟨p0.b,a.2.1,a.2.2.1⟩:dice) 4) λd=>
  EO (bQ (oJ p0 p1) (2 ^ 64) ((ET .i64 (1+d.1)),d.2.1,d.2.2,([]:VI))) λf=>
  aft some (λb=>
   some (((⟨a.2.2.2,b.2.2.2⟩:Word):Word),b.2.1,b.2.2.1)) f) e
def qE (p0:Word) (p1:Int):Option Bool:=
 EO (bif decide ((p0.Stem.length:Int)<=600) then
 some (decide (1<=(p0.Loop.length:Int)))
 else
 some false) λa=>
 EO (bif a then
 some (decide ((p0.Loop.length:Int)<=600))
 else
 some false) λb=>
 EO (bif b then
 EO (dD p0.Stem p1) λe=>
 some e
 else
 some false) λc=>
 EO (bif c then
 EO (dD p0.Loop p1) λf=>
 some f
 else
 some false) λd=>
 some d
def gw (p0:VI) (c1:Sig) (c2:Rival) (c:Int) (a:VI×Int):LO (VI×Int) (VI×Int):=
 EO (idx p0 c) λb=>
 EO (idx c2.In a.2) λe=>
 EO (cJ c1) λd=>
 EO (appS 8 a.1 ([(ET .i64 ((ET .i64 (b * d))+e))]:VI)) λf=>
 EO (idx c2.Next a.2) λg=>
 EO (idx g b) λi=>
 some (.inr (.inr (f,i)))
def gN (p0:VI) (c0:VI) (c1:Sig) (c2:Rival) (c3:Int):Option (VI×Int):=
 EO (cntM (gw p0 c1 c2) p0.length 0 (c0,c3)) λb=>
 aft some (λa=>
  some (a.1,a.2)) b
def iD (p0:Sig) (p1:Rival) (p2:Word) (a:VI×VI×Int):LO (Word×Bool) (VI×VI×Int):=
 EO (bP a.1 a.2.2) λc=>
 bif (!c) then
  EO (appS 8 a.1 ([a.2.2]:VI)) λd=>
  EO (gN p2.Loop a.2.1 p0 p1 a.2.2) λb=>
  some (.inr (.inr (d,b.1,b.2)))
 else
  some (.inr (.inl (a.1,a.2.1,a.2.2)))
def lL (p0:Sig) (p1:Rival) (p2:Word):Option (Word×Bool):=
 EO (kh p0) λg=>
 EO (bif (!g) then
 some true
 else
 EO (kQ p0 p1) λi=>
 some (!i)) λd=>
 EO (bif d then
 some true
 else
 EO (nn p0.Out) λ_z25=>
 EO (qE p2 (ET .i64 (1 * 2 ^ (min (ES p0.Out) (E1 E2))))) λj=>
 some (!j)) λe=>
 bif e then
  some (((⟨([]:VI),([]:VI)⟩:Word):Word),false)
 else
  EO (gN p2.Stem ([]:VI) p0 p1 0) λb=>
  EO (bQ (iD p0 p1 p2) (2 ^ 64) (([]:VI),b.1,b.2)) λf=>
  aft some (λa=>
   EO (cH a.1 a.2.2) λk=>
   EO (mS a.2.1 (ET .i64 ((p2.Stem.length:Int)+(ET .i64 (k * (p2.Loop.length:Int)))))) λc=>
   some (c.1,c.2)) f
def jI (f:dice) (g:VC×Int×Int) (i:Rival×Bool) (j:Int) (b:Int×Int):LO Bool (Int×Int):=
 EO (qM (⟨f.b,b.1,b.2⟩:dice) 2) λa=>
 EO (lL (⟨1,1⟩:Sig) i.1 a.1) λc=>
 EO (bif (!c.2) then
 some true
 else
 EO (mY (⟨1,1⟩:Sig) g.1 c.1) λe=>
 some e) λd=>
 bif d then
  some (.inl false)
 else
  some (.inr (.inr (a.2.1,a.2.2)))
def qd (p0:VI):Option Bool:=
 EO (zp p0) λt=>
 bif t then
  some true
 else
  EO (vJ p0 615) λb=>
  EO (lY b 2) λa=>
  EO (eV (⟨1,1⟩:Sig) a.1) λc=>
  EO (io (⟨1,1⟩:Sig) a.1) λu=>
  EO (bif (c.2==u.2) then
  some true
  else
  EO (fI (⟨1,1⟩:Sig) a.1) λv=>
  EO (ib (⟨1,1⟩:Sig) a.1) λw=>
  some (v !=w)) λo=>
  bif o then
   some false
  else
   bif (!c.2) then
    EO (fI (⟨1,1⟩:Sig) a.1) λx=>
    some ((x==0):Bool)
   else
    EO (cu (⟨b.b,a.2.1,a.2.2⟩:dice) 2) λd=>
    EO (cu (⟨b.b,d.2.1,d.2.2⟩:dice) 2) λe=>
    EO (cu (⟨b.b,e.2.1,e.2.2⟩:dice) 2) λf=>
    EO (cu (⟨b.b,f.2.1,f.2.2⟩:dice) 2) λg=>
    EO (cu (⟨b.b,g.2.1,g.2.2⟩:dice) 2) λi=>
    EO (cu (⟨b.b,i.2.1,i.2.2⟩:dice) 2) λj=>
    EO (cu (⟨b.b,j.2.1,j.2.2⟩:dice) 2) λk=>
    EO (cu (⟨b.b,k.2.1,k.2.2⟩:dice) 2) λl=>
    EO (qy (⟨1,1⟩:Sig) (⟨([([d.1,e.1]:VI),([f.1,g.1]:VI)]:VV),([([i.1,j.1]:VI),([k.1,l.1]:VI)]:VV)⟩:Machine) c.1) λm=>
    EO (bif (!m.2) then
    some true
    else
    EO (mY (⟨1,1⟩:Sig) a.1 m.1) λy=>
    some y) λp=>
    EO (bif p then
    some true
    else
    EO (nj (⟨1,1⟩:Sig) c.1 a.1) λz=>
    some (!z)) λq=>
    EO (bif q then
    some true
    else
    EO (nM (⟨1,1⟩:Sig) c.1 a.1) λs=>
    some (!s)) λn=>
    bif n then
     some false
    else
     EO (cntM (jI b a c) (ES (4-0)) 0 (l.2.1,l.2.2)) λr=>
     aft some (λA=>
      some true) r
end Go.Proofs.YtfombamjdkihnaaGreat
