/- The functions on data. By program. -/
import Derived.Test.YtgbippnfaoedmaaGreatDoorTypesBG
import Derived.Test.YtgbippnfaoedmaaGreatDoorCompBG
set_option linter.unusedVariables false
set_option linter.unusedSimpArgs false
open Int renaming tmod → zx, toNat → zq
open Go.IntKind renaming bits → zA, i64 → zB, u64 → zD, wrap → zr
open Option renaming bind → zm
namespace Go.Proofs.YtgbippnfaoedmaaGreatDoor
open Go Go.Wk Go.Proofs
set_option maxRecDepth 100000
set_option maxHeartbeats 1000000
def tx (p0:VI):Option Bool:=
 some (decide (4096<(p0.length:Int)):Bool)
def jC (p0:VI) (b:Int) (a:Int):Option (dice⊕(Int⊕Int)):=
 zm (idx p0 b) λc=>
 some (.inr (.inr ((zr .u64 ((zr .u64 ((zr .u64 (a * 1099511628211))+(zr .u64 c)))+3)):Int)))
def ou (p0:VI) (p1:Int):Option (dice):=
 zm (cntM (jC p0) p0.length 0 ((zr .u64 ((zr .u64 (p1 * 7919))+(zr .u64 (p0.length:Int)))):Int)) λa=>
 aft some (λb=>
  some ((⟨p0,0,b⟩:dice):dice)) a
def ci (p0:dice) (p1:Int):Option (Int×Int×Int):=
 zm (bif decide (p0.i<(p0.b.length:Int)) then
  zm (idx p0.b p0.i) λb=>
  some (((zr .i64 ((zr .i64 (zr .u64 (BitVec.toNat (BitVec.ofInt (zA zD) (Int.fdiv (zr .u64 ((zr .u64 (p0.h * 6364136223846793005))+1442695040888963407)) (2 ^ (min (zq 33) (zA zD)))) &&& BitVec.ofInt (zA zD) 16777215))))+(zr .i64 b))):Int),((zr .i64 (p0.i+1)):Int))
 else
  some (((zr .i64 (zr .u64 (BitVec.toNat (BitVec.ofInt (zA zD) (Int.fdiv (zr .u64 ((zr .u64 (p0.h * 6364136223846793005))+1442695040888963407)) (2 ^ (min (zq 33) (zA zD)))) &&& BitVec.ofInt (zA zD) 16777215)))):Int),p0.i)) λa=>
 zm (nz p1) λ_z55=>
 some (((zx a.1 p1):Int),a.2,((zr .u64 ((zr .u64 (p0.h * 6364136223846793005))+1442695040888963407)):Int))
def jn (p0:Int) (p1:Int) (p2:Int):Option Bool:=
 zm (bif decide (p1<=p0) then
 some (decide (p0<=p2))
 else
 some false) λa=>
 some (a:Bool)
def fW (p0:VI) (p1:Int) (a:Int) (i:Unit):Option (Bool⊕(Unit⊕Unit)):=
 zm (idx p0 a) λd=>
 zm (jn d 0 (zr .i64 (p1-1))) λe=>
 zm (bif (!e) then
 some true
 else
 zm (bif decide (0<a) then
 zm (idx p0 a) λf=>
 zm (idx p0 (zr .i64 (a-1))) λg=>
 some (decide (f<=g))
 else
 some false) λb=>
 some b) λc=>
 bif c then
  some (.inl (false:Bool))
 else
  some (.inr (.inr ()))
def jG (p0:VI) (p1:Int):Option Bool:=
 zm (cntM (fW p0 p1) p0.length 0 ()) λa=>
 aft some (λb=>
  some (true:Bool)) a
def kW (p0:VI) (p1:Int):Option Bool:=
 zm (bif decide ((p0.length:Int)<=p1) then
 zm (jG p0 p1) λb=>
 some b
 else
 some false) λa=>
 some (a:Bool)
def kV (p0:VI) (p1:Int):Option Bool:=
 zm (jn p1 0 256) λc=>
 zm (bif c then
 zm (kW p0 p1) λb=>
 some b
 else
 some false) λa=>
 some (a:Bool)
def kB (p0:VI) (p1:VI):Option Bool:=
 zm (kV p0 256) λb=>
 zm (bif b then
 zm (kV p1 256) λc=>
 some c
 else
 some false) λa=>
 some (a:Bool)
def dQ (p0:VI):Option VI:=
 zm (appS 8 ([]:VI) p0) λa=>
 some (a:VI)
def dR (p0:VI) (p1:Int) (a:Int):Option (VI⊕(Int⊕Int)):=
 zm (bif decide (a<(p0.length:Int)) then
 zm (idx p0 a) λc=>
 some (decide (c<p1))
 else
 some false) λb=>
 bif b then
  some (.inr (.inr ((zr .i64 (a+1)):Int)))
 else
  some (.inr (.inl (a:Int)))
def g6 (p0:VI) (p1:Int):Option VI:=
 zm (bn (dR p0 p1) (2 ^ 64) (0:Int)) λc=>
 aft some (λa=>
  zm (bif decide (a<(p0.length:Int)) then
  zm (idx p0 a) λd=>
  some (d==p1)
  else
  some false) λb=>
  bif b then
   some (p0:VI)
  else
   zm (subS p0 0 a) λe=>
   zm (dQ e) λf=>
   zm (appS 8 f ([p1]:VI)) λg=>
   zm (subS p0 a (p0.length:Int)) λi=>
   zm (appS 8 g i) λj=>
   some (j:VI)) c
def gX (p1:VI) (b:Int) (a:VI):Option (VI⊕(VI⊕VI)):=
 zm (idx p1 b) λc=>
 zm (g6 a c) λd=>
 some (.inr (.inr (d:VI)))
def kw (p0:VI) (p1:VI):Option VI:=
 zm (kB p0 p1) λd=>
 bif (!d) then
  some ([]:VI)
 else
  zm (dQ p0) λc=>
  zm (cntM (gX p1) p1.length 0 (c:VI)) λa=>
  aft some (λb=>
   some (b:VI)) a
def cV (p0:dice) (c:Int×Int×Int) (a:VI×Int×Int×Int):Option ((Parity×Int×Int)⊕((VI×Int×Int×Int)⊕(VI×Int×Int×Int))):=
 bif decide (0<a.2.1) then
  zm (ci (⟨p0.b,a.2.2.1,a.2.2.2⟩:dice) (zr .i64 (1+c.1))) λb=>
  zm (kw a.1 ([b.1]:VI)) λd=>
  some (.inr (.inr (d,((zr .i64 (a.2.1-1)):Int),b.2.1,b.2.2)))
 else
  some (.inr (.inl (a.1,a.2.1,a.2.2.1,a.2.2.2)))
def gV (p0:dice) (i:Int×Int×Int) (m:Int) (a:Int×Int×VI×VV×VI):Option ((Parity×Int×Int)⊕((Int×Int×VI×VV×VI)⊕(Int×Int×VI×VV×VI))):=
 zm (ci (⟨p0.b,a.1,a.2.1⟩:dice) 3) λc=>
 zm (bn (cV p0 i) (2 ^ 64) (([]:VI),((zr .i64 (1+c.1)):Int),c.2.1,c.2.2)) λf=>
 aft (λg=>some (.inl g)) (λb=>
  zm (ci (⟨p0.b,b.2.2.1,b.2.2.2⟩:dice) 2) λd=>
  zm (appS 8 a.2.2.1 ([d.1]:VI)) λj=>
  zm (appS 24 a.2.2.2.1 ([b.1]:VV)) λk=>
  zm (ci (⟨p0.b,d.2.1,d.2.2⟩:dice) 5) λe=>
  zm (appS 8 a.2.2.2.2 ([e.1]:VI)) λl=>
  some (.inr (.inr (e.2.1,e.2.2,j,k,l)))) f
def kq (p0:dice) (p1:Int):Option (Parity×Int×Int):=
 zm (ci p0 p1) λb=>
 zm (rng (zr .i64 (1+b.1))) λ_=>
 zm (cntM (gV p0 b) (zq ((zr .i64 (1+b.1))-0)) 0 (b.2.1,b.2.2,([]:VI),([]:VV),([]:VI))) λc=>
 aft some (λa=>
  some (((⟨(⟨a.2.2.1,a.2.2.2.1⟩:Arena),a.2.2.2.2⟩:Parity):Parity),a.1,a.2.1)) c
def fU (p0:Arena) (a:Int) (l:Unit):Option (Bool⊕(Unit⊕Unit)):=
 zm (idx p0.Owner a) λe=>
 zm (jn e 0 1) λf=>
 zm (bif (!f) then
 some true
 else
 zm (idx p0.Next a) λg=>
 some (decide ((g.length:Int)<1))) λb=>
 zm (bif b then
 some true
 else
 zm (idx p0.Next a) λi=>
 some (decide (16<(i.length:Int)))) λc=>
 zm (bif c then
 some true
 else
 zm (idx p0.Next a) λj=>
 zm (kW j (p0.Owner.length:Int)) λk=>
 some (!k)) λd=>
 bif d then
  some (.inl (false:Bool))
 else
  some (.inr (.inr ()))
def jF (p0:Arena):Option Bool:=
 zm (jn (p0.Owner.length:Int) 1 256) λc=>
 zm (bif (!c) then
 some true
 else
 some ((p0.Next.length:Int) !=(p0.Owner.length:Int))) λa=>
 bif a then
  some (false:Bool)
 else
  zm (cntM (fU p0) p0.Owner.length 0 ()) λb=>
  aft some (λd=>
   some (true:Bool)) b
def eC (p0:Parity) (a:Int) (d:Unit):Option (Bool⊕(Unit⊕Unit)):=
 zm (idx p0.Prio a) λb=>
 zm (jn b 0 40) λc=>
 bif (!c) then
  some (.inl (false:Bool))
 else
  some (.inr (.inr ()))
def eP (p0:Parity):Option Bool:=
 zm (jF p0.Arena) λc=>
 zm (bif (!c) then
 some true
 else
 some ((p0.Prio.length:Int) !=(p0.Arena.Owner.length:Int))) λa=>
 bif a then
  some (false:Bool)
 else
  zm (cntM (eC p0) p0.Prio.length 0 ()) λb=>
  aft some (λd=>
   some (true:Bool)) b
def lG  (a:Int×ByteArray):Option (ByteArray⊕((Int×ByteArray)⊕(Int×ByteArray))):=
 zm (bif (eqB a.2 (ByteArray.mk #[])) then
 some true
 else
 some (a.1 !=0)) λb=>
 bif b then
  zm (bif decide ((zx a.1 10)<0) then
   some ((zr .i64 (0-(zx a.1 10))):Int)
  else
   some ((zx a.1 10):Int)) λc=>
  zm (catB (strB ([(zr .u8 (zr .i64 (48+c)))]:VI)) a.2) λd=>
  some (.inr (.inr (((zr .i64 (Int.tdiv a.1 10)):Int),d)))
 else
  some (.inr (.inl (a.1,a.2)))
def nR (p0:Int):Option (ByteArray):=
 zm (bn lG (2 ^ 64) (p0,((ByteArray.mk #[]):ByteArray))) λb=>
 aft some (λa=>
  zm (bif decide (p0<0) then
   zm (catB (ByteArray.mk #[45]) a.2) λd=>
   some (d:ByteArray)
  else
   some (a.2:ByteArray)) λc=>
  some (c:ByteArray)) b
def oG (p0:Int):Option (ByteArray):=
 bif (p0==0) then
  some ((ByteArray.mk #[101,118,101,110]):ByteArray)
 else
  some ((ByteArray.mk #[111,100,100]):ByteArray)
def jZ (p0:(List ByteArray)) (p1:ByteArray) (b:Int) (a:ByteArray):Option (ByteArray⊕((ByteArray)⊕(ByteArray))):=
 zm (bif decide (0<b) then
  zm (catB a p1) λd=>
  some (d:ByteArray)
 else
  some (a:ByteArray)) λc=>
 zm (idx p0 b) λe=>
 zm (catB c e) λf=>
 some (.inr (.inr (f:ByteArray)))
def kX (p0:(List ByteArray)) (p1:ByteArray):Option (ByteArray):=
 zm (cntM (jZ p0 p1) p0.length 0 ((ByteArray.mk #[]):ByteArray)) λa=>
 aft some (λb=>
  some (b:ByteArray)) a
def kA (p0:VI) (b:Int) (a:(List ByteArray)):Option (ByteArray⊕(((List ByteArray))⊕((List ByteArray)))):=
 zm (idx p0 b) λc=>
 zm (nR c) λd=>
 zm (appS 16 a ([d]:List ByteArray)) λe=>
 some (.inr (.inr (e:(List ByteArray))))
def oI (p0:VI):Option (ByteArray):=
 zm (cntM (kA p0) p0.length 0 (([]:List ByteArray):(List ByteArray))) λa=>
 aft some (λb=>
  zm (kX b (ByteArray.mk #[32])) λc=>
  some (c:ByteArray)) a
def eW (p0:Parity) (p1:Int):Option (ByteArray):=
 zm (idx p0.Prio p1) λg=>
 zm (idx p0.Arena.Owner p1) λb=>
 zm (idx p0.Arena.Next p1) λd=>
 zm (nR g) λa=>
 zm (oG b) λc=>
 zm (oI d) λe=>
 zm (kX ([a,c,e]:List ByteArray) (ByteArray.mk #[32])) λf=>
 some (f:ByteArray)
def fV (p0:Parity) (p1:Int):Option (ByteArray):=
 zm (eP p0) λd=>
 zm (bif (!d) then
 some true
 else
 zm (jn p1 0 (zr .i64 ((p0.Prio.length:Int)-1))) λb=>
 some (!b)) λa=>
 bif a then
  some ((ByteArray.mk #[]):ByteArray)
 else
  zm (eW p0 p1) λc=>
  some (c:ByteArray)
def g8  (c:Int) (a:VI):Option (VI⊕(VI⊕VI)):=
 zm (appS 8 a ([(-1)]:VI)) λb=>
 some (.inr (.inr (b:VI)))
def kD (p0:Int):Option VI:=
 zm (rng p0) λ_=>
 zm (cntM g8 (zq (p0-0)) 0 ([]:VI)) λa=>
 aft some (λb=>
  some (b:VI)) a
def j0 (p0:VI) (p1:Int) (a:Int) (c:Unit):Option (Bool⊕(Unit⊕Unit)):=
 zm (idx p0 a) λb=>
 bif (b==p1) then
  some (.inl (true:Bool))
 else
  some (.inr (.inr ()))
def mV (p0:VI) (p1:Int):Option Bool:=
 zm (cntM (j0 p0 p1) p0.length 0 ()) λa=>
 aft some (λb=>
  some (false:Bool)) a
def fY (p0:Parity) (p1:VI) (a:Int) (g:Unit):Option (Bool⊕(Unit⊕Unit)):=
 zm (idx p1 a) λc=>
 zm (bif (c !=(-1)) then
 zm (idx p1 a) λe=>
 zm (idx p0.Arena.Next a) λd=>
 zm (mV d e) λf=>
 some (!f)
 else
 some false) λb=>
 bif b then
  some (.inl (false:Bool))
 else
  some (.inr (.inr ()))
def jM (p0:Parity) (p1:VI):Option Bool:=
 bif ((p1.length:Int) !=(p0.Prio.length:Int)) then
  some (false:Bool)
 else
  zm (cntM (fY p0 p1) p1.length 0 ()) λa=>
  aft some (λb=>
   some (true:Bool)) a
def gY (p0:Parity) (p1:VI) (a:Int) (c:VV):Option ((Parity×Bool)⊕(VV⊕VV)):=
 zm (idx p0.Arena.Next a) λd=>
 zm (dQ d) λe=>
 zm (idx p1 a) λf=>
 zm (bif decide (0<=f) then
  zm (idx p1 a) λg=>
  some (([g]:VI):VI)
 else
  some (e:VI)) λb=>
 zm (appS 24 c ([b]:VV)) λi=>
 some (.inr (.inr (i:VV)))
def kx (p0:Parity) (p1:VI):Option (Parity×Bool):=
 zm (eP p0) λf=>
 zm (bif (!f) then
 some true
 else
 zm (jM p0 p1) λg=>
 some (!g)) λc=>
 bif c then
  some (((⟨(⟨([]:VI),([]:VV)⟩:Arena),([]:VI)⟩:Parity):Parity),false)
 else
  zm (dQ p0.Arena.Owner) λa=>
  zm (dQ p0.Prio) λb=>
  zm (cntM (gY p0 p1) p1.length 0 (((⟨(⟨a,([]:VV)⟩:Arena),b⟩:Parity).Arena).Next:VV)) λd=>
  aft some (λe=>
   some (((⟨(⟨((⟨(⟨a,([]:VV)⟩:Arena),b⟩:Parity).Arena).Owner,e⟩:Arena),(⟨(⟨a,([]:VV)⟩:Arena),b⟩:Parity).Prio⟩:Parity):Parity),true)) d
def jL (p0:Parity) (b:Int) (a:Int×VV):Option (l7Game⊕((Int×VV)⊕(Int×VV))):=
 zm (idx p0.Arena.Next b) λd=>
 bif decide (a.1<(d.length:Int)) then
  zm (idx p0.Arena.Next b) λe=>
  zm (idx e a.1) λc=>
  zm (idx a.2 c) λf=>
  zm (appS 8 f ([b]:VI)) λg=>
  zm (idx a.2 c) λj=>
  zm (setI a.2 c (g:VI)) λi=>
  some (.inr (.inr (((zr .i64 (a.1+1)):Int),i)))
 else
  some (.inr (.inl (a.1,a.2)))
def jK (p0:Parity) (b:Int) (a:VV×VI):Option (l7Game⊕((VV×VI)⊕(VV×VI))):=
 zm (idx a.2 b) λg=>
 zm (setI a.2 b (-1)) λf=>
 zm (bn (jL p0 b) (2 ^ 64) ((0:Int),a.1)) λc=>
 aft (λd=>some (.inl d)) (λe=>
  some (.inr (.inr (e.2,f)))) c
def mW (p0:Parity):Option (l7Game):=
 zm (mkS 24 (p0.Prio.length:Int) ([]:VI)) λa=>
 zm (mkS 8 (p0.Prio.length:Int) (0:Int)) λb=>
 zm (cntM (jK p0) p0.Prio.length 0 (((⟨p0.Arena.Owner,p0.Prio,p0.Arena.Next,a,b⟩:l7Game).prev:VV),((⟨p0.Arena.Owner,p0.Prio,p0.Arena.Next,a,b⟩:l7Game).pick:VI))) λd=>
 aft some (λc=>
  some ((⟨(⟨p0.Arena.Owner,p0.Prio,p0.Arena.Next,a,b⟩:l7Game).owner,(⟨p0.Arena.Owner,p0.Prio,p0.Arena.Next,a,b⟩:l7Game).prio,(⟨p0.Arena.Owner,p0.Prio,p0.Arena.Next,a,b⟩:l7Game).next,c.1,c.2⟩:l7Game):l7Game)) d
def iO  (b:Int) (a:VB):Option (VB⊕(VB⊕VB)):=
 zm (idx a b) λd=>
 zm (setI a b true) λc=>
 some (.inr (.inr (c:VB)))
def mw (p0:Int):Option VB:=
 zm (mkS 1 p0 (false:Bool)) λc=>
 zm (rng p0) λ_=>
 zm (cntM iO (zq (p0-0)) 0 (c:VB)) λa=>
 aft some (λb=>
  some (b:VB)) a
def nS (p0:Int) (p1:Int):Option Int:=
 bif decide (p1<p0) then
  some (p0:Int)
 else
  some (p1:Int)
def iQ (p0:l7Game) (p1:VB) (b:Int) (a:Int):Option (Int⊕(Int⊕Int)):=
 zm (idx p1 b) λd=>
 zm (bif d then
  zm (idx p0.prio b) λe=>
  zm (nS a e) λf=>
  some (f:Int)
 else
  some (a:Int)) λc=>
 some (.inr (.inr (c:Int)))
def my (p0:l7Game) (p1:VB):Option Int:=
 zm (cntM (iQ p0 p1) p1.length 0 ((-1):Int)) λa=>
 aft some (λb=>
  some (b:Int)) a
def jH (p0:l7Game) (p1:Int) (p2:Int):Option Bool:=
 zm (idx p0.pick p1) λb=>
 zm (bif decide (b<0) then
 some true
 else
 zm (idx p0.pick p1) λc=>
 some (c==p2)) λa=>
 some (a:Bool)
def eG (p0:l7Game) (p1:VB) (p2:Int) (a:Int×Int):Option (Int⊕((Int×Int)⊕(Int×Int))):=
 zm (idx p0.next p2) λe=>
 bif decide (a.2<(e.length:Int)) then
  zm (idx p0.next p2) λf=>
  zm (idx f a.2) λb=>
  zm (idx p1 b) λg=>
  zm (bif g then
  zm (jH p0 p2 b) λi=>
  some i
  else
  some false) λc=>
  zm (bif c then
   some ((zr .i64 (a.1+1)):Int)
  else
   some (a.1:Int)) λd=>
  some (.inr (.inr (d,((zr .i64 (a.2+1)):Int))))
 else
  some (.inr (.inl (a.1,a.2)))
def iP (p0:l7Game) (p1:VB) (p2:Int):Option Int:=
 zm (bn (eG p0 p1 p2) (2 ^ 64) ((0:Int),(0:Int))) λa=>
 aft some (λb=>
  some (b.1:Int)) a
def cU (p0:l7Game) (p1:VB) (d:VB) (a:Int) (b:VI×VB×VI):Option (VB⊕((VI×VB×VI)⊕(VI×VB×VI))):=
 zm (idx p1 a) λg=>
 zm (bif g then
  zm (iP p0 p1 a) λi=>
  zm (idx b.2.2 a) λo=>
  zm (setI b.2.2 a i) λm=>
  some (m:VI)
 else
  some (b.2.2:VI)) λf=>
 zm (idx p1 a) λj=>
 zm (bif j then
 zm (idx d a) λk=>
 some k
 else
 some false) λe=>
 zm (bif e then
  zm (idx b.2.1 a) λp=>
  zm (setI b.2.1 a true) λn=>
  zm (appS 8 b.1 ([a]:VI)) λl=>
  some (l,n)
 else
  some (b.1,b.2.1)) λc=>
 some (.inr (.inr (c.1,c.2,f)))
def cu (p0:l7Game) (p1:VB) (p2:Int) (c:Int) (a:VI×Int×VB×VI):Option (VB⊕((VI×Int×VB×VI)⊕(VI×Int×VB×VI))):=
 zm (idx p0.prev c) λo=>
 bif decide (a.2.1<(o.length:Int)) then
  zm (idx p0.prev c) λp=>
  zm (idx p a.2.1) λb=>
  zm (idx p1 b) λq=>
  zm (bif (!q) then
  some true
  else
  zm (idx a.2.2.1 b) λr=>
  some r) λi=>
  zm (bif i then
  some true
  else
  zm (jH p0 b c) λj=>
  some (!j)) λf=>
  bif f then
   some (.inr (.inr (a.1,((zr .i64 (a.2.1+1)):Int),a.2.2.1,a.2.2.2)))
  else
   zm (idx a.2.2.2 b) λk=>
   zm (idx a.2.2.2 b) λt=>
   zm (setI a.2.2.2 b (zr .i64 (k-1))) λe=>
   zm (idx p0.owner b) λl=>
   zm (bif (l==p2) then
   some true
   else
   zm (idx e b) λm=>
   some (m==0)) λg=>
   zm (bif g then
    zm (idx a.2.2.1 b) λu=>
    zm (setI a.2.2.1 b true) λs=>
    zm (appS 8 a.1 ([b]:VI)) λn=>
    some (n,s)
   else
    some (a.1,a.2.2.1)) λd=>
   some (.inr (.inr (d.1,((zr .i64 (a.2.1+1)):Int),d.2,e)))
 else
  some (.inr (.inl (a.1,a.2.1,a.2.2.1,a.2.2.2)))
def dS (p0:l7Game) (p1:VB) (p2:Int) (a:VI×Int×VB×VI):Option (VB⊕((VI×Int×VB×VI)⊕(VI×Int×VB×VI))):=
 bif decide (a.2.1<(a.1.length:Int)) then
  zm (idx a.1 a.2.1) λe=>
  zm (bn (cu p0 p1 p2 e) (2 ^ 64) (a.1,(0:Int),a.2.2.1,a.2.2.2)) λc=>
  aft (λd=>some (.inl d)) (λb=>
   some (.inr (.inr (b.1,((zr .i64 (a.2.1+1)):Int),b.2.2.1,b.2.2.2)))) c
 else
  some (.inr (.inl (a.1,a.2.1,a.2.2.1,a.2.2.2)))
def eZ (p0:l7Game) (p1:VB) (p2:Int) (b:VB):Option VB:=
 zm (mkS 1 (p1.length:Int) (false:Bool)) λf=>
 zm (mkS 8 (p1.length:Int) (0:Int)) λg=>
 zm (cntM (cU p0 p1 b) p1.length 0 (([]:VI),f,g)) λc=>
 aft some (λa=>
  zm (bn (dS p0 p1 p2) (2 ^ 64) (a.1,(0:Int),a.2.1,a.2.2)) λd=>
  aft some (λe=>
   some (e.2.2.1:VB)) d) c
def g7 (p0:VB) (p1:VB) (a:Int) (b:VB):Option (VB⊕(VB⊕VB)):=
 zm (idx p0 a) λd=>
 zm (bif d then
 zm (idx p1 a) λe=>
 some (!e)
 else
 some false) λc=>
 zm (idx b a) λg=>
 zm (setI b a c) λf=>
 some (.inr (.inr (f:VB)))
def jJ (p0:VB) (p1:VB):Option VB:=
 zm (mkS 1 (p0.length:Int) (false:Bool)) λc=>
 zm (cntM (g7 p0 p1) p0.length 0 (c:VB)) λa=>
 aft some (λb=>
  some (b:VB)) a
def iR (p0:l7Game) (p1:VB) (d:Int) (a:Int) (b:VB):Option (VB⊕(VB⊕VB)):=
 zm (idx p1 a) λe=>
 zm (bif e then
 zm (idx p0.prio a) λf=>
 some (f==d)
 else
 some false) λc=>
 zm (idx b a) λi=>
 zm (setI b a c) λg=>
 some (.inr (.inr (g:VB)))
def gq (f:Int) (g:VB) (i:VB) (a:Int) (b:Bool×VB):Option (VB⊕((Bool×VB)⊕(Bool×VB))):=
 zm (idx g a) λj=>
 zm (bif j then
 zm (idx i a) λk=>
 some (k !=((zx f 2)==0))
 else
 some false) λd=>
 zm (idx b.2 a) λm=>
 zm (setI b.2 a d) λc=>
 zm (bif b.1 then
 some true
 else
 zm (idx c a) λl=>
 some l) λe=>
 some (.inr (.inr (e,c)))
def iS (p1:VB) (e:Int) (a:Int) (b:VB):Option (VB⊕(VB⊕VB)):=
 zm (idx p1 a) λd=>
 zm (bif d then
 some ((zx e 2)==0)
 else
 some false) λc=>
 zm (idx b a) λg=>
 zm (setI b a c) λf=>
 some (.inr (.inr (f:VB)))
def iT (j:Int) (e:VB) (f:VB) (a:Int) (b:VB):Option (VB⊕(VB⊕VB)):=
 zm (idx f a) λg=>
 zm (bif g then
 some true
 else
 zm (idx e a) λi=>
 zm (bif i then
 some ((zx j 2)==1)
 else
 some false) λc=>
 some c) λd=>
 zm (idx b a) λl=>
 zm (setI b a d) λk=>
 some (.inr (.inr (k:VB)))
def gr (c:l7Game->VB->Option VB) (p0:l7Game) (p1:VB):Option VB:=
 zm (my p0 p1) λa=>
 zm (mkS 1 (p1.length:Int) (false:Bool)) λb=>
 bif decide (a<0) then
  some (b:VB)
 else
  zm (mkS 1 (p1.length:Int) (false:Bool)) λq=>
  zm (cntM (iR p0 p1 a) p1.length 0 (q:VB)) λi=>
  aft some (λm=>
   zm (eZ p0 p1 (zx a 2) m) λr=>
   zm (jJ p1 r) λf=>
   zm (c p0 f) λs=>
   zm (mkS 1 (p1.length:Int) (false:Bool)) λt=>
   zm (cntM (gq a f s) p1.length 0 (false,t)) λj=>
   aft some (λd=>
    bif (!d.1) then
     zm (cntM (iS p1 a) p1.length 0 (b:VB)) λk=>
     aft some (λn=>
      some (n:VB)) k
    else
     zm (eZ p0 p1 (zr .i64 (1-(zx a 2))) d.2) λe=>
     zm (jJ p1 e) λo=>
     zm (c p0 o) λp=>
     zm (cntM (iT a e p) p1.length 0 (b:VB)) λg=>
     aft some (λl=>
      some (l:VB)) g) j) i
def jf:Nat->l7Game->VB->Option VB
 |0=>λ_ _=>none
 |n+1=>gr (jf n)
def kz (p0:Bool):Option Int:=
 bif p0 then
  some (1:Int)
 else
  some (0:Int)
def iU (c:VB) (b:Int) (a:VI):Option (VI⊕(VI⊕VI)):=
 zm (idx c b) λd=>
 zm (kz d) λe=>
 zm (appS 8 a ([(zr .i64 (1-e))]:VI)) λf=>
 some (.inr (.inr (f:VI)))
def gA (p0:Parity):Option VI:=
 zm (mW p0) λe=>
 zm (mw (p0.Prio.length:Int)) λd=>
 zm (jf (2 ^ 64) e d) λa=>
 zm (cntM (iU a) a.length 0 ([]:VI)) λb=>
 aft some (λc=>
  some (c:VI)) b
def hU (p0:VI) (p1:VI) (a:Int) (d:Unit):Option (Bool⊕(Unit⊕Unit)):=
 zm (idx p0 a) λb=>
 zm (idx p1 a) λc=>
 bif (b !=c) then
  some (.inl (false:Bool))
 else
  some (.inr (.inr ()))
def kF (p0:VI) (p1:VI):Option Bool:=
 bif ((p0.length:Int) !=(p1.length:Int)) then
  some (false:Bool)
 else
  zm (cntM (hU p0 p1) p0.length 0 ()) λa=>
  aft some (λb=>
   some (true:Bool)) a
def iM (p0:Parity) (p1:VI):Option Bool:=
 zm (kx p0 p1) λa=>
 zm (bif a.2 then
 zm (gA a.1) λc=>
 zm (gA p0) λd=>
 zm (kF c d) λe=>
 some e
 else
 some false) λb=>
 some (b:Bool)
def eH (p0:VI) (p1:Int) (a:Int) (b:VB):Option (VB⊕(VB⊕VB)):=
 zm (idx p0 a) λc=>
 zm (idx b a) λe=>
 zm (setI b a (c==p1)) λd=>
 some (.inr (.inr (d:VB)))
def dT (p0:VI) (p1:Int):Option VB:=
 zm (mkS 1 (p0.length:Int) (false:Bool)) λc=>
 zm (cntM (eH p0 p1) p0.length 0 (c:VB)) λa=>
 aft some (λb=>
  some (b:VB)) a
def fX (p1:VB) (p2:Int) (c:VB) (a:Int) (f:Unit):Option (Bool⊕(Unit⊕Unit)):=
 zm (idx p1 a) λd=>
 zm (bif d then
 zm (idx c a) λe=>
 some (e !=(p2==0))
 else
 some false) λb=>
 bif b then
  some (.inl (false:Bool))
 else
  some (.inr (.inr ()))
def jI (p0:l7Game) (p1:VB) (p2:Int):Option Bool:=
 zm (jf (2 ^ 64) p0 p1) λb=>
 zm (cntM (fX p1 p2 b) p1.length 0 ()) λa=>
 aft some (λc=>
  some (true:Bool)) a
def g9 (p0:l7Game) (p1:VB) (p2:Int) (a:Int×VI):Option ((Int×VI)⊕((Int×VI)⊕(Int×VI))):=
 zm (idx p0.next p2) λd=>
 bif decide (a.1<(d.length:Int)) then
  zm (idx p0.next p2) λe=>
  zm (idx e a.1) λb=>
  zm (idx p1 b) λf=>
  bif (!f) then
   some (.inr (.inr (((zr .i64 (a.1+1)):Int),a.2)))
  else
   zm (idx a.2 p2) λj=>
   zm (setI a.2 p2 b) λc=>
   zm (idx p0.owner p2) λg=>
   zm (jI (⟨p0.owner,p0.prio,p0.next,p0.prev,c⟩:l7Game) p1 g) λi=>
   bif i then
    some (.inl (b,c))
   else
    some (.inr (.inr (((zr .i64 (a.1+1)):Int),c)))
 else
  some (.inr (.inl (a.1,a.2)))
def kE (p0:l7Game) (p1:VB) (p2:Int):Option (Int×VI):=
 zm (bn (g9 p0 p1 p2) (2 ^ 64) ((0:Int),p0.pick)) λa=>
 aft some (λb=>
  some (((-1):Int),b.2)) a
def eD (p0:Parity) (p1:VI) (d:VI) (a:Int) (b:VI):Option ((Answer×Bool)⊕(VI⊕VI)):=
 zm (idx p1 a) λe=>
 zm (bif (e !=(-1)) then
 zm (idx d a) λf=>
 zm (idx p0.Arena.Owner a) λg=>
 some (f !=g)
 else
 some false) λc=>
 bif c then
  some (.inl (((⟨([]:VI),([]:VI)⟩:Answer):Answer),false))
 else
  zm (idx p1 a) λi=>
  zm (idx b a) λk=>
  zm (setI b a i) λj=>
  some (.inr (.inr (j:VI)))
def eF (p0:Parity) (e:VI) (b:l7Game) (i:VB) (j:VB) (a:Int) (c:VI):Option ((Answer×Bool)⊕(VI⊕VI)):=
 zm (idx c a) λk=>
 zm (bif decide (0<=k) then
 some true
 else
 zm (idx e a) λl=>
 zm (idx p0.Arena.Owner a) λm=>
 some (l !=m)) λf=>
 bif f then
  some (.inr (.inr (c:VI)))
 else
  zm (idx e a) λn=>
  zm (bif (n==1) then
   some (j:VB)
  else
   some (i:VB)) λg=>
  zm (kE (⟨b.owner,b.prio,b.next,b.prev,c⟩:l7Game) g a) λd=>
  zm (idx d.2 a) λp=>
  zm (setI d.2 a d.1) λo=>
  some (.inr (.inr (o:VI)))
def iN (p0:Parity) (p1:VI):Option (Answer×Bool):=
 zm (iM p0 p1) λg=>
 bif (!g) then
  some (((⟨([]:VI),([]:VI)⟩:Answer):Answer),false)
 else
  zm (gA p0) λa=>
  zm (mW p0) λb=>
  zm (cntM (eD p0 p1 a) p1.length 0 (b.pick:VI)) λc=>
  aft some (λe=>
   zm (dT a 0) λi=>
   zm (dT a 1) λj=>
   zm (cntM (eF p0 a b i j) a.length 0 (e:VI)) λd=>
   aft some (λf=>
    some (((⟨a,f⟩:Answer):Answer),true)) d) c
def ky (p0:Parity):Option (Answer):=
 zm (eP p0) λc=>
 bif (!c) then
  some ((⟨([]:VI),([]:VI)⟩:Answer):Answer)
 else
  zm (kD (p0.Prio.length:Int)) λa=>
  zm (iN p0 a) λb=>
  some (b.1:Answer)
def kp  (a:Int×ByteArray):Option (ByteArray⊕((Int×ByteArray)⊕(Int×ByteArray))):=
 zm (bif (eqB a.2 (ByteArray.mk #[])) then
 some true
 else
 some (decide (0<a.1))) λb=>
 bif b then
  zm (catB (strB ([(zr .u8 (zr .i64 (48+(zx a.1 10))))]:VI)) a.2) λc=>
  some (.inr (.inr (((zr .i64 (Int.tdiv a.1 10)):Int),c)))
 else
  some (.inr (.inl (a.1,a.2)))
def jB (p0:Int):Option (ByteArray):=
 zm (bif decide (p0<0) then
  some (((zr .i64 (0-p0)):Int),true)
 else
  some (p0,false)) λa=>
 zm (bn kp (2 ^ 64) (a.1,((ByteArray.mk #[]):ByteArray))) λc=>
 aft some (λb=>
  zm (bif a.2 then
   zm (catB (ByteArray.mk #[45]) b.2) λe=>
   some (e:ByteArray)
  else
   some (b.2:ByteArray)) λd=>
  some (d:ByteArray)) c
def strings_TrimSuffix (p0 p1:ByteArray):Option (ByteArray):=tsufB p0 p1
def strings_Split (p0 p1:ByteArray):Option ((List ByteArray)):=splitS p0 p1
def strings_TrimPrefix (p0 p1:ByteArray):Option (ByteArray):=tpreB p0 p1
def ic (p0:ByteArray) (a:Int) (c:Int):Option ((Int×Bool)⊕(Int⊕Int)):=
 zm (idxB p0 a) λd=>
 zm (bif decide (d<48) then
 some true
 else
 zm (idxB p0 a) λe=>
 some (decide (57<e))) λb=>
 bif b then
  some (.inl ((0:Int),false))
 else
  zm (idxB p0 a) λf=>
  some (.inr (.inr ((zr .i64 ((zr .i64 (10 * c))+(zr .i64 (zr .u8 (f-48))))):Int)))
def io (p0:ByteArray) (p1:Int):Option (Int×Bool):=
 zm (bif (eqB p0 (ByteArray.mk #[])) then
 some true
 else
 some (decide (9<(p0.size:Int)))) λb=>
 zm (bif b then
 some true
 else
 zm (idxB p0 0) λf=>
 zm (bif (f==48) then
 some (decide (1<(p0.size:Int)))
 else
 some false) λc=>
 some c) λd=>
 bif d then
  some ((0:Int),false)
 else
  zm (rng (p0.size:Int)) λ_=>
  zm (cntM (ic p0) (zq ((p0.size:Int)-0)) 0 (0:Int)) λe=>
  aft some (λa=>
   some (a,(decide (a<p1):Bool))) e
def ji (p0:ByteArray) (a:Int) (c:Unit):Option (Int⊕(Unit⊕Unit)):=
 zm (idx ec a) λb=>
 bif (eqB p0 b) then
  some (.inl (a:Int))
 else
  some (.inr (.inr ()))
def lA (p0:ByteArray):Option Int:=
 zm (cntM (ji p0) (zq (2-0)) 0 ()) λa=>
 aft some (λb=>
  some ((-1):Int)) a
def iH (p0:VI) (p1:Int) (a:Int) (g:Unit):Option (Bool⊕(Unit⊕Unit)):=
 zm (idx p0 a) λb=>
 zm (bif decide (b<0) then
 some true
 else
 some (decide (p1<=b))) λc=>
 zm (bif c then
 some true
 else
 zm (bif decide (0<a) then
 zm (idx p0 (zr .i64 (a-1))) λf=>
 some (decide (b<=f))
 else
 some false) λd=>
 some d) λe=>
 bif e then
  some (.inl (false:Bool))
 else
  some (.inr (.inr ()))
def kK (p0:VI) (p1:Int):Option Bool:=
 zm (cntM (iH p0 p1) p0.length 0 ()) λa=>
 aft some (λb=>
  some (true:Bool)) a
def ib (p1:Int) (d:(List ByteArray)) (c:Int) (b:VI):Option ((Int×Int×VI×Bool)⊕(VI⊕VI)):=
 zm (idx d c) λe=>
 zm (io e p1) λa=>
 bif (!a.2) then
  some (.inl ((0:Int),(0:Int),([]:VI),false))
 else
  zm (appS 8 b ([a.1]:VI)) λf=>
  some (.inr (.inr (f:VI)))
def cY (p0:ByteArray) (p1:Int):Option (Int×Int×VI×Bool):=
 zm (bif decide (p1<1) then
 some true
 else
 some (decide (256<p1))) λf=>
 bif f then
  some ((0:Int),(0:Int),([]:VI),false)
 else
  zm (strings_Split p0 (ByteArray.mk #[32])) λa=>
  zm (bif decide ((a.length:Int)<3) then
  some true
  else
  some (decide (18<(a.length:Int)))) λg=>
  bif g then
   some ((0:Int),(0:Int),([]:VI),false)
  else
   zm (idx a 0) λk=>
   zm (io k 41) λc=>
   zm (idx a 1) λl=>
   zm (lA l) λd=>
   zm (bif (!c.2) then
   some true
   else
   some (decide (d<0))) λi=>
   bif i then
    some ((0:Int),(0:Int),([]:VI),false)
   else
    zm (subS a 2 (a.length:Int)) λe=>
    zm (cntM (ib p1 e) e.length 0 ([]:VI)) λj=>
    aft some (λb=>
     zm (kK b p1) λm=>
     bif (!m) then
      some ((0:Int),(0:Int),([]:VI),false)
     else
      some (c.1,d,b,true)) j
def iq (p0:Parity) (p1:Int) (p2:Int) (a:VI):Option (Parity):=
 zm (appS 8 p0.Arena.Owner ([p1]:VI)) λb=>
 zm (appS 24 p0.Arena.Next ([a]:VV)) λc=>
 zm (appS 8 p0.Prio ([p2]:VI)) λd=>
 some ((⟨(⟨b,c⟩:Arena),d⟩:Parity):Parity)
def ga (p0 p1:Int):Option (ByteArray):=fmtB p0 p1
def iy (p0:Int):Option (ByteArray):=
 zm (ga p0 10) λa=>
 some (a:ByteArray)
def dJ (p0:bench) (p1:ByteArray):Option (ByteArray×VI×VV×VI):=
 zm (cY p1 12) λa=>
 zm (bif (!a.2.2.2) then
 some true
 else
 some (decide (12<=(p0.game.Prio.length:Int)))) λc=>
 bif c then
  some (((ByteArray.mk #[101,114,114,111,114]):ByteArray),p0.game.Arena.Owner,p0.game.Arena.Next,p0.game.Prio)
 else
  zm (iq p0.game a.2.1 a.1 a.2.2.1) λb=>
  zm (iy (b.Prio.length:Int)) λd=>
  some (d,b.Arena.Owner,b.Arena.Next,b.Prio)
def ff (p0:Arena) (a:Int) (k:Unit):Option (Bool⊕(Unit⊕Unit)):=
 zm (idx p0.Next a) λb=>
 zm (idx p0.Owner a) λg=>
 zm (bif decide (g<0) then
 some true
 else
 zm (idx p0.Owner a) λi=>
 some (decide (1<i))) λc=>
 zm (bif c then
 some true
 else
 some (decide ((b.length:Int)<1))) λd=>
 zm (bif d then
 some true
 else
 some (decide (16<(b.length:Int)))) λe=>
 zm (bif e then
 some true
 else
 zm (kK b (p0.Owner.length:Int)) λj=>
 some (!j)) λf=>
 bif f then
  some (.inl (false:Bool))
 else
  some (.inr (.inr ()))
def iw (p0:Arena):Option Bool:=
 zm (bif decide ((p0.Owner.length:Int)<1) then
 some true
 else
 some (decide (256<(p0.Owner.length:Int)))) λa=>
 zm (bif a then
 some true
 else
 some ((p0.Next.length:Int) !=(p0.Owner.length:Int))) λb=>
 bif b then
  some (false:Bool)
 else
  zm (cntM (ff p0) p0.Next.length 0 ()) λc=>
  aft some (λd=>
   some (true:Bool)) c
def eg (p0:Parity) (c:Int) (d:Unit):Option (Bool⊕(Unit⊕Unit)):=
 zm (idx p0.Prio c) λa=>
 zm (bif decide (a<0) then
 some true
 else
 some (decide (40<a))) λb=>
 bif b then
  some (.inl (false:Bool))
 else
  some (.inr (.inr ()))
def dI (p0:Parity):Option Bool:=
 zm (iw p0.Arena) λc=>
 zm (bif (!c) then
 some true
 else
 some ((p0.Prio.length:Int) !=(p0.Arena.Owner.length:Int))) λa=>
 bif a then
  some (false:Bool)
 else
  zm (cntM (eg p0) p0.Prio.length 0 ()) λb=>
  aft some (λd=>
   some (true:Bool)) b
def jd  (b:Int) (a:VI):Option (VI⊕(VI⊕VI)):=
 zm (idx a b) λd=>
 zm (setI a b (-1)) λc=>
 some (.inr (.inr (c:VI)))
def fC (p0:Arena):Option VI:=
 zm (mkS 8 (p0.Owner.length:Int) (0:Int)) λa=>
 zm (cntM jd a.length 0 (a:VI)) λb=>
 aft some (λc=>
  some (c:VI)) b
def lB (p0:Arena):Option Int:=
 some ((p0.Owner.length:Int):Int)
def iC  (b:Int) (a:VI):Option (VI⊕(VI⊕VI)):=
 zm (appS 8 a ([b]:VI)) λc=>
 some (.inr (.inr (c:VI)))
def nJ (p0:Int):Option VI:=
 zm (bif decide (p0<0) then
 some true
 else
 some (decide (256<p0))) λa=>
 bif a then
  some ([]:VI)
 else
  zm (rng p0) λ_=>
  zm (cntM iC (zq (p0-0)) 0 ([]:VI)) λb=>
  aft some (λc=>
   some (c:VI)) b
def ij (p0:Arena):Option VI:=
 zm (lB p0) λa=>
 zm (nJ a) λb=>
 some (b:VI)
def fG (c:Int) (e:VI) (d:Int) (a:VV):Option (VV⊕(VV⊕VV)):=
 zm (idx e d) λb=>
 zm (idx a b) λf=>
 zm (appS 8 f ([c]:VI)) λg=>
 zm (idx a b) λj=>
 zm (setI a b (g:VI)) λi=>
 some (.inr (.inr (i:VV)))
def fF (p0:Arena) (a:Int) (e:VV):Option (VV⊕(VV⊕VV)):=
 zm (idx p0.Next a) λb=>
 zm (cntM (fG a b) b.length 0 (e:VV)) λc=>
 aft (λd=>some (.inl d)) (λf=>
  some (.inr (.inr (f:VV)))) c
def jw (p0:Arena):Option VV:=
 zm (mkS 24 (p0.Owner.length:Int) ([]:VI)) λc=>
 zm (cntM (fF p0) p0.Next.length 0 (c:VV)) λa=>
 aft some (λb=>
  some (b:VV)) a
def gM (p1:VI) (c:Int) (a:VB):Option (VB⊕(VB⊕VB)):=
 zm (idx p1 c) λb=>
 zm (idx a b) λe=>
 zm (setI a b true) λd=>
 some (.inr (.inr (d:VB)))
def fB (p0:Arena) (p1:VI):Option VB:=
 zm (mkS 1 (p0.Owner.length:Int) (false:Bool)) λc=>
 zm (cntM (gM p1) p1.length 0 (c:VB)) λa=>
 aft some (λb=>
  some (b:VB)) a
def gK (p0:VB) (b:Int) (a:VI):Option (VI⊕(VI⊕VI)):=
 zm (idx p0 b) λd=>
 zm (bif d then
  zm (appS 8 a ([b]:VI)) λe=>
  some (e:VI)
 else
  some (a:VI)) λc=>
 some (.inr (.inr (c:VI)))
def em (p0:VB):Option VI:=
 zm (cntM (gK p0) p0.length 0 ([]:VI)) λa=>
 aft some (λb=>
  some (b:VI)) a
def eJ (p0:Parity) (p1:VI) (c:Int) (a:Int):Option (Int⊕(Int⊕Int)):=
 zm (idx p1 c) λd=>
 zm (idx p0.Prio d) λb=>
 some (.inr (.inr ((if a<b then b else a):Int)))
def ip (p0:Parity) (p1:VI):Option Int:=
 zm (cntM (eJ p0 p1) p1.length 0 ((-1):Int)) λa=>
 aft some (λb=>
  some (b:Int)) a
def bO (p2:VB) (b:Int) (e:VI) (d:Int) (a:VI):Option (VB⊕(VI⊕VI)):=
 zm (idx e d) λf=>
 zm (idx p2 f) λg=>
 zm (bif g then
  zm (idx a b) λi=>
  zm (idx a b) λk=>
  zm (setI a b (zr .i64 (i+1))) λj=>
  some (j:VI)
 else
  some (a:VI)) λc=>
 some (.inr (.inr (c:VI)))
def cn (p0:solver) (p1:Int) (p2:VB) (o:VI) (l:Int) (a:VI×VB×VI):Option (VB⊕((VI×VB×VI)⊕(VI×VB×VI))):=
 zm (idx o l) λb=>
 zm (idx a.2.1 b) λp=>
 zm (bif p then
 some true
 else
 zm (idx p2 b) λq=>
 some (!q)) λi=>
 bif i then
  some (.inr (.inr (a.1,a.2.1,a.2.2)))
 else
  zm (idx p0.game.Arena.Owner b) λr=>
  bif (r !=p1) then
   zm (idx a.2.2 b) λs=>
   zm (bif (s==0) then
    zm (idx p0.game.Arena.Next b) λg=>
    zm (cntM (bO p2 b g) g.length 0 (a.2.2:VI)) λj=>
    aft (λu=>none) (λk=>
     some (k:VI)) j
   else
    some (a.2.2:VI)) λc=>
   zm (idx c b) λt=>
   zm (idx c b) λv=>
   zm (setI c b (zr .i64 (t-1))) λe=>
   zm (idx e b) λm=>
   bif decide (0<m) then
    some (.inr (.inr (a.1,a.2.1,e)))
   else
    zm (idx a.2.1 b) λn=>
    zm (setI a.2.1 b true) λf=>
    zm (appS 8 a.1 ([b]:VI)) λd=>
    some (.inr (.inr (d,f,e)))
  else
   zm (idx a.2.1 b) λn=>
   zm (setI a.2.1 b true) λf=>
   zm (appS 8 a.1 ([b]:VI)) λd=>
   some (.inr (.inr (d,f,a.2.2)))
def cP (p0:solver) (p1:Int) (p2:VB) (a:VI×VB×VI):Option (VB⊕((VI×VB×VI)⊕(VI×VB×VI))):=
 bif decide (0<(a.1.length:Int)) then
  zm (idx a.1 0) λf=>
  zm (subS a.1 1 (a.1.length:Int)) λg=>
  zm (idx p0.preds f) λc=>
  zm (cntM (cn p0 p1 p2 c) c.length 0 (g,a.2.1,a.2.2)) λd=>
  aft (λe=>some (.inl e)) (λb=>
   some (.inr (.inr (b.1,b.2.1,b.2.2)))) d
 else
  some (.inr (.inl (a.1,a.2.1,a.2.2)))
def dw (p0:solver) (p1:Int) (p2:VB) (a:VB):Option VB:=
 zm (appS 1 ([]:VB) a) λd=>
 zm (mkS 8 (p2.length:Int) (0:Int)) λe=>
 zm (em a) λf=>
 zm (bn (cP p0 p1 p2) (2 ^ 64) (f,d,e)) λb=>
 aft some (λc=>
  some (c.2.1:VB)) b
def fL (p0:VB) (p1:VB) (a:Int) (b:VB):Option (VB⊕(VB⊕VB)):=
 zm (idx p0 a) λd=>
 zm (bif d then
 zm (idx p1 a) λe=>
 some (!e)
 else
 some false) λc=>
 zm (idx b a) λg=>
 zm (setI b a c) λf=>
 some (.inr (.inr (f:VB)))
def dz (p0:VB) (p1:VB):Option VB:=
 zm (mkS 1 (p0.length:Int) (false:Bool)) λc=>
 zm (cntM (fL p0 p1) p0.length 0 (c:VB)) λa=>
 aft some (λb=>
  some (b:VB)) a
def bG (p0:VB) (p1:Bool) (a:Int) (c:Unit):Option (Int⊕(Unit⊕Unit)):=
 zm (idx p0 a) λb=>
 bif (p1==b) then
  some (.inl (a:Int))
 else
  some (.inr (.inr ()))
def ck (p0:VB) (p1:Bool):Option Int:=
 zm (cntM (bG p0 p1) p0.length 0 ()) λa=>
 aft some (λb=>
  some ((-1):Int)) a
def bz (p0:VB) (p1:Bool):Option Bool:=
 zm (ck p0 p1) λa=>
 some (decide (0<=a):Bool)
def dh (p0:solver) (e:Int) (d:VB) (a:Int) (b:VB):Option ((VB×Int)⊕(VB⊕VB)):=
 zm (idx d a) λf=>
 zm (bif f then
 zm (idx p0.game.Prio a) λg=>
 some (g==e)
 else
 some false) λc=>
 zm (idx b a) λj=>
 zm (setI b a c) λi=>
 some (.inr (.inr (i:VB)))
def dg (k:solver->VB->Option (VB×Int)) (p0:solver) (p1:VB) (b:Int) (a:VB):Option ((VB×Int)⊕(VB⊕VB)):=
 zm (mkS 1 (p1.length:Int) (false:Bool)) λf=>
 zm (cntM (dh p0 b a) f.length 0 (f:VB)) λi=>
 aft (λj=>some (.inl j)) (λl=>
  zm (dw p0 (zx b 2) a l) λm=>
  zm (dz a m) λg=>
  zm (k p0 g) λc=>
  zm (bif (c.2==(zx b 2)) then
   zm (dz g c.1) λn=>
   some (n:VB)
  else
   some (c.1:VB)) λe=>
  zm (bz e true) λo=>
  bif (!o) then
   some (.inl (a,((zx b 2):Int)))
  else
   zm (dw p0 (zr .i64 (1-(zx b 2))) a e) λp=>
   zm (dz a p) λd=>
   zm (bz d true) λq=>
   bif (!q) then
    some (.inl (d,((zx b 2):Int)))
   else
    some (.inr (.inr (d:VB)))) i
def cr (c:solver->VB->Option (VB×Int)) (p0:solver) (p1:VB):Option (VB×Int):=
 zm (em p1) λa=>
 bif ((a.length:Int)==0) then
  some (p1,(0:Int))
 else
  zm (ip p0.game a) λd=>
  zm (appS 1 ([]:VB) p1) λe=>
  zm (bn (dg c p0 p1 d) (2 ^ 64) (e:VB)) λb=>
  aft some (λf=>
   none) b
def ch:Nat->solver->VB->Option (VB×Int)
 |0=>λ_ _=>none
 |n+1=>cr (ch n)
def kL (p0:Parity) (p1:VI):Option (VI×VI):=
 zm (jw p0.Arena) λc=>
 zm (fB p0.Arena p1) λb=>
 zm (ch (2 ^ 64) (⟨p0,c⟩:solver) b) λa=>
 bif (a.2==0) then
  zm (em a.1) λd=>
  zm (dz b a.1) λe=>
  zm (em e) λf=>
  some (d,f)
 else
  zm (dz b a.1) λg=>
  zm (em g) λi=>
  zm (em a.1) λj=>
  some (i,j)
def fK (d:VI×VI) (c:Int) (a:VI):Option (VI⊕(VI⊕VI)):=
 zm (idx d.2 c) λb=>
 zm (idx a b) λf=>
 zm (setI a b 1) λe=>
 some (.inr (.inr (e:VI)))
def gh (p0:Parity):Option VI:=
 zm (mkS 8 (p0.Prio.length:Int) (0:Int)) λd=>
 zm (ij p0.Arena) λe=>
 zm (kL p0 e) λa=>
 zm (cntM (fK a) a.2.length 0 (d:VI)) λb=>
 aft some (λc=>
  some (c:VI)) b
def ei (p0:Answer) (p1:Int) (b:Int) (a:VI):Option (VI⊕(VI⊕VI)):=
 zm (idx p0.Won b) λd=>
 zm (bif (d==p1) then
  zm (appS 8 a ([b]:VI)) λe=>
  some (e:VI)
 else
  some (a:VI)) λc=>
 some (.inr (.inr (c:VI)))
def iE (p0:Answer) (p1:Int):Option VI:=
 bif decide (256<(p0.Won.length:Int)) then
  some ([]:VI)
 else
  zm (cntM (ei p0 p1) p0.Won.length 0 ([]:VI)) λa=>
  aft some (λb=>
   some (b:VI)) a
def dK (p0:VV) (b:Int) (a:VV):Option (VV⊕(VV⊕VV)):=
 zm (idx p0 b) λc=>
 zm (appS 8 ([]:VI) c) λd=>
 zm (appS 24 a ([d]:VV)) λe=>
 some (.inr (.inr (e:VV)))
def ja (p0:VV):Option VV:=
 zm (cntM (dK p0) p0.length 0 ([]:VV)) λa=>
 aft some (λb=>
  some (b:VV)) a
def gD (p0:Arena):Option (Arena):=
 zm (appS 8 ([]:VI) p0.Owner) λa=>
 zm (ja p0.Next) λb=>
 some ((⟨a,b⟩:Arena):Arena)
def ft (p1:VI) (b:Int) (a:VV):Option (Arena⊕(VV⊕VV)):=
 zm (idx p1 b) λc=>
 zm (bif decide (0<=c) then
  zm (idx a b) λf=>
  zm (setI a b (([c]:VI):VI)) λe=>
  some (e:VV)
 else
  some (a:VV)) λd=>
 some (.inr (.inr (d:VV)))
def ju (p0:Arena) (p1:VI):Option (Arena):=
 zm (gD p0) λa=>
 zm (cntM (ft p1) p1.length 0 (a.Next:VV)) λb=>
 aft some (λc=>
  some ((⟨a.Owner,c⟩:Arena):Arena)) b
def km (p0:Parity) (p1:VI):Option (Parity):=
 zm (ju p0.Arena p1) λa=>
 zm (appS 8 ([]:VI) p0.Prio) λb=>
 some ((⟨(⟨a.Owner,a.Next⟩:Arena),b⟩:Parity):Parity)
def du (p0:Parity) (p2:VI) (a:Int) (k:VI) (l:VI) (j:Int) (c:VI):Option (Answer⊕(VI⊕VI)):=
 zm (idx l j) λd=>
 zm (idx p2 d) λm=>
 zm (idx p2 a) λn=>
 bif (m !=n) then
  some (.inr (.inr (c:VI)))
 else
  zm (idx c a) λt=>
  zm (setI c a d) λb=>
  zm (km p0 b) λo=>
  zm (kL o k) λe=>
  zm (idx p2 a) λp=>
  zm (bif (p==0) then
  some ((e.2.length:Int)==0)
  else
  some false) λg=>
  zm (bif g then
  some true
  else
  zm (idx p2 a) λq=>
  zm (bif (q==1) then
  some ((e.1.length:Int)==0)
  else
  some false) λi=>
  some i) λf=>
  bif f then
   some (.inr (.inl (b:VI)))
  else
   zm (idx b a) λs=>
   zm (setI b a (-1)) λr=>
   some (.inr (.inr (r:VI)))
def en (p0:Parity) (p2:VI) (a:Int) (b:VI):Option (Answer⊕(VI⊕VI)):=
 zm (idx p2 a) λj=>
 zm (idx p0.Arena.Owner a) λi=>
 zm (bif (i !=j) then
 some true
 else
 zm (idx b a) λk=>
 some (decide (0<=k))) λd=>
 bif d then
  some (.inr (.inr (b:VI)))
 else
  zm (idx p2 a) λl=>
  zm (iE (⟨p2,([]:VI)⟩:Answer) l) λm=>
  zm (idx p0.Arena.Next a) λc=>
  zm (cntM (du p0 p2 a m c) c.length 0 (b:VI)) λe=>
  aft (λf=>some (.inl f)) (λg=>
   some (.inr (.inr (g:VI)))) e
def iI (p0:Parity) (p1:VI) (p2:VI):Option (Answer):=
 zm (appS 8 ([]:VI) p1) λa=>
 zm (cntM (en p0 p2) a.length 0 (a:VI)) λb=>
 aft some (λc=>
  zm (appS 8 ([]:VI) p2) λd=>
  some ((⟨d,c⟩:Answer):Answer)) b
def js (p0:Parity):Option (Answer):=
 zm (dI p0) λd=>
 bif (!d) then
  some ((⟨([]:VI),([]:VI)⟩:Answer):Answer)
 else
  zm (fC p0.Arena) λa=>
  zm (gh p0) λb=>
  zm (iI p0 a b) λc=>
  some (c:Answer)
def gE (p0:Int):Option (ByteArray):=
 bif (p0==(-1)) then
  some ((ByteArray.mk #[45]):ByteArray)
 else
  zm (iy p0) λa=>
  some (a:ByteArray)
def strings_Join (p0:(List ByteArray)) (p1:ByteArray):Option (ByteArray):=joinB p0 p1
def cL (b:Answer) (a:Int) (c:(List ByteArray)):Option (ByteArray⊕(((List ByteArray))⊕((List ByteArray)))):=
 zm (idx b.Won a) λd=>
 zm (idx ec d) λe=>
 zm (catB e (ByteArray.mk #[32])) λf=>
 zm (idx b.Plan a) λg=>
 zm (gE g) λi=>
 zm (catB f i) λj=>
 zm (appS 16 c ([j]:List ByteArray)) λk=>
 some (.inr (.inr (k:(List ByteArray))))
def dr (p0:bench):Option (ByteArray):=
 zm (dI p0.game) λd=>
 bif (!d) then
  some ((ByteArray.mk #[101,114,114,111,114]):ByteArray)
 else
  zm (js p0.game) λa=>
  zm (cntM (cL a) a.Won.length 0 (([]:List ByteArray):(List ByteArray))) λb=>
  aft some (λc=>
   zm (strings_Join c (ByteArray.mk #[44,32])) λe=>
   some (e:ByteArray)) b
def d7 (p0:Parity):Option Bool:=
 zm (dI p0) λb=>
 zm (bif b then
 some (decide ((p0.Prio.length:Int)<=12))
 else
 some false) λa=>
 some (a:Bool)
def dP (p0:Parity) (b:Int) (a:Int):Option (Int⊕(Int⊕Int)):=
 zm (idx p0.Arena.Next b) λc=>
 zm (idx p0.Arena.Owner b) λf=>
 zm (bif (f==1) then
  bif decide (4096<(zr .i64 (a * (c.length:Int)))) then
   some (.inl ((-1):Int))
  else
   some (.inr ((zr .i64 (a * (c.length:Int))):Int))
 else
  some (.inr (a:Int)):Option (Int⊕Int)) λd=>
 aft (λe=>some (.inl e)) (λg=>
  some (.inr (.inr (g:Int)))) d
def dO (p0:Parity):Option Int:=
 zm (cntM (dP p0) p0.Arena.Next.length 0 (1:Int)) λa=>
 aft some (λb=>
  some (b:Int)) a
def bH (p0:VI):Option VI:=
 if 0<p0.length/\p0.length<4611686018427387904 then some (p0.mergeSort λa b=>decide (a<=b)) else if p0.length=0 then some p0 else none
def cj (p0:VI):Option VI:=
 if 0<p0.length/\p0.length<4611686018427387904 then some (Go.Lib.compact p0) else none
def fH (p0:Parity) (p1:VI) (b:Int) (a:VI):Option (VI⊕(VI⊕VI)):=
 zm (idx p1 b) λc=>
 zm (idx p0.Prio c) λd=>
 zm (appS 8 a ([d]:VI)) λe=>
 some (.inr (.inr (e:VI)))
def jx (p0:Parity) (p1:VI):Option VI:=
 zm (cntM (fH p0 p1) p1.length 0 ([]:VI)) λa=>
 aft some (λb=>
  zm (bH b) λc=>
  zm (cj c) λd=>
  some (d:VI)) a
def cz  (a:Int×Int×VI):Option (VI⊕((Int×Int×VI)⊕(Int×Int×VI))):=
 bif decide (a.1<a.2.1) then
  zm (idx a.2.2 a.2.1) λc=>
  zm (idx a.2.2 a.1) λd=>
  zm (idx a.2.2 a.1) λf=>
  zm (setI a.2.2 a.1 c) λb=>
  zm (idx b a.2.1) λg=>
  zm (setI b a.2.1 d) λe=>
  some (.inr (.inr (((zr .i64 (a.1+1)):Int),((zr .i64 (a.2.1-1)):Int),e)))
 else
  some (.inr (.inl (a.1,a.2.1,a.2.2)))
def c9 (p0:VI):Option VI:=
 zm (bn cz (2 ^ 64) ((0:Int),((zr .i64 ((p0.length:Int)-1)):Int),p0)) λa=>
 aft some (λb=>
  some (b.2.2:VI)) a
def gR (e:VI) (d:Int) (a:VI):Option (VI⊕(VI⊕VI)):=
 zm (idx e d) λb=>
 zm (bif ((zx b 2)==1) then
  zm (appS 8 a ([b]:VI)) λf=>
  some (f:VI)
 else
  some (a:VI)) λc=>
 some (.inr (.inr (c:VI)))
def fE (p0:Parity):Option VI:=
 zm (ij p0.Arena) λd=>
 zm (jx p0 d) λa=>
 zm (cntM (gR a) a.length 0 ([]:VI)) λb=>
 aft some (λc=>
  zm (c9 c) λe=>
  some (e:VI)) b
def gF (p0:VI):Option Bool:=
 zm (idx p0 0) λa=>
 some ((a==1):Bool)
def ez (p0:Parity) (p1:VI) (p2:Int) (d:Int) (a:VI):Option (VI⊕(VI⊕VI)):=
 zm (idx p1 d) λb=>
 zm (idx p0.Prio b) λe=>
 zm (bif (e==p2) then
  zm (appS 8 a ([b]:VI)) λf=>
  some (f:VI)
 else
  some (a:VI)) λc=>
 some (.inr (.inr (c:VI)))
def gi (p0:Parity) (p1:VI) (p2:Int):Option VI:=
 zm (cntM (ez p0 p1 p2) p1.length 0 ([]:VI)) λa=>
 aft some (λb=>
  some (b:VI)) a
def gP (p0:Parity) (g:VI) (b:Int) (a:VI):Option (VI⊕(VI⊕VI)):=
 zm (idx g b) λc=>
 zm (ij p0.Arena) λd=>
 zm (gi p0 d c) λe=>
 zm (appS 8 a ([(e.length:Int)]:VI)) λf=>
 some (.inr (.inr (f:VI)))
def gO (p0:Parity):Option VI:=
 zm (fE p0) λa=>
 zm (cntM (gP p0 a) a.length 0 ([]:VI)) λb=>
 aft some (λc=>
  some (c:VI)) b
def ik (p2:VI) (d:Int) (e:VI) (a:Int) (b:Int×VI):Option (VI⊕((Int×VI)⊕(Int×VI))):=
 zm (idx e a) λf=>
 zm (bif decide (d<=f) then
  zm (idx p2 (zr .i64 (a+1))) λg=>
  zm (idx b.2 (zr .i64 (a+1))) λj=>
  zm (setI b.2 (zr .i64 (a+1)) g) λi=>
  some (((zr .i64 (a+1)):Int),i)
 else
  some (b.1,b.2)) λc=>
 some (.inr (.inr (c.1,c.2)))
def bK (b:VI) (a:Int×VI):Option (VI⊕((Int×VI)⊕(Int×VI))):=
 bif decide (1<=a.1) then
  zm (idx a.2 a.1) λc=>
  zm (idx b (zr .i64 (a.1-1))) λd=>
  bif decide (c<d) then
   zm (idx a.2 a.1) λe=>
   zm (idx a.2 a.1) λi=>
   zm (setI a.2 a.1 (zr .i64 (e+1))) λf=>
   some (.inl (f:VI))
  else
   zm (idx a.2 a.1) λj=>
   zm (setI a.2 a.1 0) λg=>
   some (.inr (.inr (((zr .i64 (a.1-1)):Int),g)))
 else
  some (.inr (.inl (a.1,a.2)))
def dm (p0:Parity) (p1:Int) (p2:VI):Option VI:=
 zm (gF p2) λf=>
 bif f then
  some (([1]:VI):VI)
 else
  zm (idx p0.Prio p1) λb=>
  zm (mkS 8 (p2.length:Int) (0:Int)) λg=>
  zm (fE p0) λc=>
  zm (cntM (ik p2 b c) c.length 0 ((0:Int),g)) λd=>
  aft some (λa=>
   bif ((zx b 2)==0) then
    some (a.2:VI)
   else
    zm (gO p0) λi=>
    zm (bn (bK i) (2 ^ 64) (a.1,a.2)) λe=>
    aft some (λj=>
     some (([1]:VI):VI)) e) d
def bW (p0:Int):Option Bool:=
 some ((p0 !=p0):Bool)
def cC (p0:Int) (p1:Int):Option Int:=
 zm (bW p0) λb=>
 zm (bW p1) λa=>
 bif b then
  bif a then
   some (0:Int)
  else
   some ((-1):Int)
 else
  bif a then
   some (1:Int)
  else
   bif decide (p0<p1) then
    some ((-1):Int)
   else
    bif decide (p1<p0) then
     some (1:Int)
    else
     some (0:Int)
def bt (p0:VI) (p1:VI) (a:Int) (e:Unit):Option (Int⊕(Unit⊕Unit)):=
 zm (idx p0 a) λc=>
 bif decide ((p1.length:Int)<=a) then
  some (.inl (1:Int))
 else
  zm (idx p1 a) λd=>
  zm (cC c d) λb=>
  bif (b !=0) then
   some (.inl (b:Int))
  else
   some (.inr (.inr ()))
def bq (p0:VI) (p1:VI):Option Int:=
 zm (cntM (bt p0 p1) p0.length 0 ()) λa=>
 aft some (λb=>
  bif decide ((p0.length:Int)<(p1.length:Int)) then
   some ((-1):Int)
  else
   some (0:Int)) a
def aZ (p0:VV) (b:Int) (a:VI):Option (VI⊕(VI⊕VI)):=
 zm (idx p0 b) λd=>
 zm (bq d a) λe=>
 zm (bif decide (e<0) then
  zm (idx p0 b) λf=>
  some (f:VI)
 else
  some (a:VI)) λc=>
 some (.inr (.inr (c:VI)))
def bf (p0:VV):Option VI:=
 zm (bif decide ((p0.length:Int)<1) then
  none
 else
  some ()) λd=>
 zm (idx p0 0) λc=>
 zm (cntM (aZ p0) (zq ((p0.length:Int)-1)) 1 (c:VI)) λa=>
 aft some (λb=>
  some (b:VI)) a
def aW (p0:VV) (b:Int) (a:VI):Option (VI⊕(VI⊕VI)):=
 zm (idx p0 b) λd=>
 zm (bq d a) λe=>
 zm (bif decide (0<e) then
  zm (idx p0 b) λf=>
  some (f:VI)
 else
  some (a:VI)) λc=>
 some (.inr (.inr (c:VI)))
def bc (p0:VV):Option VI:=
 zm (bif decide ((p0.length:Int)<1) then
  none
 else
  some ()) λd=>
 zm (idx p0 0) λc=>
 zm (cntM (aW p0) (zq ((p0.length:Int)-1)) 1 (c:VI)) λa=>
 aft some (λb=>
  some (b:VI)) a
def ej (p0:Parity) (p1:VV) (p2:Int) (c:VI) (b:Int) (a:VV):Option (VI⊕(VV⊕VV)):=
 zm (idx c b) λd=>
 zm (idx p1 d) λe=>
 zm (dm p0 p2 e) λf=>
 zm (appS 24 a ([f]:VV)) λg=>
 some (.inr (.inr (g:VV)))
def dL (p0:Parity) (p1:VV) (p2:Int):Option VI:=
 zm (idx p0.Arena.Next p2) λb=>
 zm (cntM (ej p0 p1 p2 b) b.length 0 ([]:VV)) λc=>
 aft some (λa=>
  zm (idx p0.Arena.Owner p2) λd=>
  bif (d==0) then
   zm (bf a) λe=>
   some (e:VI)
  else
   zm (bc a) λf=>
   some (f:VI)) c
def cq (p0:Parity) (p1:VV) (a:Int) (e:Unit):Option (Int⊕(Unit⊕Unit)):=
 zm (idx p1 a) λc=>
 zm (dL p0 p1 a) λb=>
 zm (bq b c) λd=>
 bif decide (0<d) then
  some (.inl (a:Int))
 else
  some (.inr (.inr ()))
def cA (p0:Parity) (p1:VV):Option Int:=
 zm (cntM (cq p0 p1) p1.length 0 ()) λa=>
 aft some (λb=>
  some ((-1):Int)) a
def ee (p0:Parity) (p1:VV) (p2:Int) (c:VI) (b:Int) (a:VV):Option (VI⊕(VV⊕VV)):=
 zm (idx c b) λd=>
 zm (idx p1 d) λe=>
 zm (dm p0 p2 e) λf=>
 zm (appS 24 a ([f]:VV)) λg=>
 some (.inr (.inr (g:VV)))
def dY (p0:Parity) (p1:VV) (p2:Int):Option VI:=
 zm (idx p0.Arena.Next p2) λb=>
 zm (cntM (ee p0 p1 p2 b) b.length 0 ([]:VV)) λc=>
 aft some (λa=>
  zm (idx p0.Arena.Owner p2) λd=>
  bif (d==0) then
   zm (bf a) λe=>
   some (e:VI)
  else
   zm (bc a) λf=>
   some (f:VI)) c
def cB (p0:Parity) (b:Int) (a:VV):Option (VV⊕(VV⊕VV)):=
 zm (fE p0) λc=>
 zm (mkS 8 (zr .i64 ((c.length:Int)+1)) (0:Int)) λd=>
 zm (idx a b) λf=>
 zm (setI a b (d:VI)) λe=>
 some (.inr (.inr (e:VV)))
def df (p0:Parity) (a:VV):Option (VV⊕(VV⊕VV)):=
 zm (cA p0 a) λb=>
 bif decide (b<0) then
  some (.inl (a:VV))
 else
  zm (dY p0 a b) λc=>
  zm (idx a b) λe=>
  zm (setI a b (c:VI)) λd=>
  some (.inr (.inr (d:VV)))
def fx (p0:Parity):Option VV:=
 zm (mkS 24 (p0.Prio.length:Int) ([]:VI)) λa=>
 zm (cntM (cB p0) a.length 0 (a:VV)) λb=>
 aft some (λd=>
  zm (bn (df p0) (2 ^ 64) (d:VV)) λc=>
  aft some (λe=>
   none) c) b
def db (d:VV) (c:Int) (a:VI):Option (VI⊕(VI⊕VI)):=
 zm (idx d c) λe=>
 zm (gF e) λf=>
 zm (bif f then
  zm (appS 8 a ([1]:VI)) λg=>
  some (g:VI)
 else
  zm (appS 8 a ([0]:VI)) λi=>
  some (i:VI)) λb=>
 some (.inr (.inr (b:VI)))
def fh (p0:Parity):Option VI:=
 zm (d7 p0) λd=>
 bif (!d) then
  some ([]:VI)
 else
  zm (fx p0) λa=>
  zm (cntM (db a) a.length 0 ([]:VI)) λb=>
  aft some (λc=>
   some (c:VI)) b
def jS (p0:Parity):Option (asker):=
 some ((⟨p0,([]:List (query×VI))⟩:asker):asker)
def ek (p2:VB) (c:VI) (g:VI) (f:Int) (a:Bool×Bool×Bool):Option (Bool⊕((Bool×Bool×Bool)⊕(Bool×Bool×Bool))):=
 zm (idx g f) λb=>
 zm (idx p2 b) λi=>
 bif (!i) then
  some (.inr (.inr (a.1,a.2.1,a.2.2)))
 else
  zm (bif a.1 then
  some true
  else
  zm (idx c b) λj=>
  some (decide (0<=j))) λd=>
  zm (bif a.2.1 then
  zm (idx c b) λk=>
  some (decide (0<=k))
  else
  some false) λe=>
  some (.inr (.inr (d,e,true)))
def iG (p0:Arena) (p1:Int) (p2:VB) (d:VI) (b:Int):Option Bool:=
 zm (idx p0.Next b) λc=>
 zm (cntM (ek p2 d c) c.length 0 (false,true,false)) λf=>
 aft some (λa=>
  zm (idx p0.Owner b) λg=>
  bif (g==p1) then
   some (a.1:Bool)
  else
   zm (bif a.2.2 then
   some a.2.1
   else
   some false) λe=>
   some (e:Bool)) f
def im  (b:Int) (a:VI):Option (VI⊕(VI⊕VI)):=
 zm (idx a b) λd=>
 zm (setI a b (-1)) λc=>
 some (.inr (.inr (c:VI)))
def fI (c:VI) (f:VB) (e:Int) (a:VI):Option (VI⊕(VI⊕VI)):=
 zm (idx c e) λb=>
 zm (idx f b) λg=>
 zm (bif g then
  zm (idx a b) λj=>
  zm (setI a b 0) λi=>
  some (i:VI)
 else
  some (a:VI)) λd=>
 some (.inr (.inr (d:VI)))
def ea (p0:Arena) (p1:Int) (p2:VI) (g:VB) (c:Int×VI) (f:Int) (b:VI):Option (VI⊕(VI⊕VI)):=
 zm (idx p2 f) λa=>
 zm (idx c.2 a) λi=>
 zm (bif decide (i<0) then
 zm (iG p0 p1 g c.2 a) λj=>
 some j
 else
 some false) λd=>
 zm (bif d then
  zm (appS 8 b ([a]:VI)) λk=>
  some (k:VI)
 else
  some (b:VI)) λe=>
 some (.inr (.inr (e:VI)))
def eb (d:Int×VI) (c:VI) (e:Int) (a:VI):Option (VI⊕(VI⊕VI)):=
 zm (idx c e) λb=>
 zm (idx a b) λg=>
 zm (setI a b (zr .i64 (d.1+1))) λf=>
 some (.inr (.inr (f:VI)))
def fJ (p0:Arena) (p1:Int) (p2:VI) (g:VB) (a:Int×VI):Option (VI⊕((Int×VI)⊕(Int×VI))):=
 zm (cntM (ea p0 p1 p2 g a) p2.length 0 ([]:VI)) λd=>
 aft (λb=>some (.inl b)) (λc=>
  bif ((c.length:Int)==0) then
   some (.inl (a.2:VI))
  else
   zm (cntM (eb a c) c.length 0 (a.2:VI)) λe=>
   aft (λb=>some (.inl b)) (λf=>
    some (.inr (.inr (((zr .i64 (a.1+1)):Int),f)))) e) d
def jy (p0:Arena) (p1:Int) (p2:VI) (a:VI):Option VI:=
 zm (fB p0 p2) λb=>
 zm (mkS 8 (p0.Owner.length:Int) (0:Int)) λc=>
 zm (cntM im c.length 0 (c:VI)) λd=>
 aft some (λg=>
  zm (cntM (fI a b) a.length 0 (g:VI)) λe=>
  aft some (λi=>
   zm (bn (fJ p0 p1 p2 b) (2 ^ 64) ((0:Int),i)) λf=>
   aft some (λj=>
    none) f) e) d
def fj (d:VI) (b:Int) (a:VI):Option (VI⊕(VI⊕VI)):=
 zm (idx d b) λe=>
 zm (bif decide (0<=e) then
  zm (appS 8 a ([b]:VI)) λf=>
  some (f:VI)
 else
  some (a:VI)) λc=>
 some (.inr (.inr (c:VI)))
def eQ (p0:Arena) (p1:Int) (p2:VI) (b:VI):Option VI:=
 zm (jy p0 p1 p2 b) λa=>
 zm (cntM (fj a) a.length 0 ([]:VI)) λc=>
 aft some (λd=>
  some (d:VI)) c
def dF (p0:Int) (p1:Int):Option Bool:=
 zm (bW p0) λc=>
 zm (bif c then
 zm (bW p1) λd=>
 some (!d)
 else
 some false) λa=>
 zm (bif a then
 some true
 else
 some (decide (p0<p1))) λb=>
 some (b:Bool)
def cw (p0:Int):Option Bool:=
 some ((p0 !=p0):Bool)
def bw (p0:VI) (p1:Int) (a:Int×Int):Option ((Int×Bool)⊕((Int×Int)⊕(Int×Int))):=
 bif decide (a.1<a.2) then
  zm (idx p0 (zr .i64 (Int.fdiv (zr .u64 (zr .i64 (a.1+a.2))) (2 ^ (min (zq 1) (zA zD)))))) λc=>
  zm (dF c p1) λd=>
  zm (bif d then
   some (((zr .i64 ((zr .i64 (Int.fdiv (zr .u64 (zr .i64 (a.1+a.2))) (2 ^ (min (zq 1) (zA zD)))))+1)):Int),a.2)
  else
   some (a.1,((zr .i64 (Int.fdiv (zr .u64 (zr .i64 (a.1+a.2))) (2 ^ (min (zq 1) (zA zD))))):Int))) λb=>
  some (.inr (.inr (b.1,b.2)))
 else
  some (.inr (.inl (a.1,a.2)))
def bD (p0:VI) (p1:Int):Option (Int×Bool):=
 zm (bn (bw p0 p1) (2 ^ 64) ((0:Int),((p0.length:Int):Int))) λe=>
 aft some (λa=>
  zm (bif decide (a.1<(p0.length:Int)) then
  zm (idx p0 a.1) λf=>
  zm (bif (f==p1) then
  some true
  else
  zm (idx p0 a.1) λg=>
  zm (cw g) λi=>
  zm (bif i then
  zm (cw p1) λj=>
  some j
  else
  some false) λb=>
  some b) λc=>
  some c
  else
  some false) λd=>
  some (a.1,d)) e
def gJ (p0:VI) (p1:VI) (d:Int) (a:VI):Option (VI⊕(VI⊕VI)):=
 zm (idx p0 d) λb=>
 zm (bD p1 b) λe=>
 zm (bif (!e.2) then
  zm (appS 8 a ([b]:VI)) λf=>
  some (f:VI)
 else
  some (a:VI)) λc=>
 some (.inr (.inr (c:VI)))
def gH (p0:VI) (p1:VI):Option VI:=
 zm (cntM (gJ p0 p1) p0.length 0 ([]:VI)) λa=>
 aft some (λb=>
  some (b:VI)) a
def dp (e:asker->VI->Int->Int->Int->Int->Option (VI×(List (query×VI)))) (p0:asker) (p1:VI) (p2:Int) (a:Int) (c:Int) (d:Int):Option (VI×(List (query×VI))):=
 bif (a==0) then
  zm (appS 8 ([]:VI) p1) λf=>
  some (f,p0.known)
 else
  zm (gi p0.game p1 a) λg=>
  zm (eQ p0.game.Arena p2 p1 g) λi=>
  zm (gH p1 i) λj=>
  zm (e p0 j (zr .i64 (1-p2)) (zr .i64 (a-1)) d c) λb=>
  zm (eQ p0.game.Arena (zr .i64 (1-p2)) p1 b.1) λk=>
  zm (gH p1 k) λl=>
  some (l,b.2)
def cD (f:asker->VI->Int->Int->Int->Int->Option (VI×(List (query×VI)))) (p0:asker) (p2:Int) (c:Int) (d:Int) (e:Int) (b:VI×(List (query×VI))):Option ((VI×(List (query×VI)))⊕((VI×(List (query×VI)))⊕(VI×(List (query×VI))))):=
 zm (dp f (⟨p0.game,b.2⟩:asker) b.1 p2 c d e) λa=>
 bif ((a.1.length:Int)==(b.1.length:Int)) then
  some (.inl (a.1,a.2))
 else
  some (.inr (.inr (a.1,a.2)))
def cK (e:asker->VI->Int->Int->Int->Int->Option (VI×(List (query×VI)))) (p0:asker) (p1:VI) (p2:Int) (a:Int) (b:Int) (c:Int):Option (VI×(List (query×VI))):=
 zm (bn (cD e p0 p2 a b c) (2 ^ 64) (p1,p0.known)) λd=>
 aft some (λf=>
  none) d
def ca (p1:VI) (c:Int) (b:Int):Option ((VI×(List (query×VI)))⊕(Int⊕Int)):=
 zm (idx p1 c) λa=>
 zm (nn a) λ_z41=>
 some (.inr (.inr ((zr .i64 (BitVec.toNat (BitVec.ofInt (zA zB) b ||| BitVec.ofInt (zA zB) (zr .i64 (1 * 2 ^ (min (zq a) (zA zB))))))):Int)))
def cJ (f:asker->VI->Int->Int->Int->Int->Option (VI×(List (query×VI)))) (p0:asker) (p1:VI) (p2:Int) (b:Int) (a:Int) (c:Int):Option (VI×(List (query×VI))):=
 zm (bif ((p1.length:Int)==0) then
 some true
 else
 some (a==0)) λl=>
 bif l then
  some (([]:VI),p0.known)
 else
  zm (cntM (ca p1) p1.length 0 (0:Int)) λm=>
  aft some (λi=>
   zm (mget kwquery p0.known ((⟨i,p2,b,a,c⟩:query):query) []) λj=>
   bif j.2 then
    some (j.1,p0.known)
   else
    zm (cK f p0 p1 p2 b a (zr .i64 (Int.tdiv c 2))) λg=>
    zm (dp f (⟨p0.game,g.2⟩:asker) g.1 p2 b a c) λd=>
    zm (bif decide ((d.1.length:Int)<(g.1.length:Int)) then
     zm (cK f (⟨p0.game,d.2⟩:asker) d.1 p2 b a (zr .i64 (Int.tdiv c 2))) λk=>
     some (k.1,k.2)
    else
     some (d.1,d.2)) λe=>
    zm (mset kwquery e.2 ((⟨i,p2,b,a,c⟩:query):query) e.1) λn=>
    some (e.1,n)) m
def cI:Nat->asker->VI->Int->Int->Int->Int->Option (VI×(List (query×VI)))
 |0=>λ_ _ _ _ _ _=>none
 |n+1=>cJ (cI n)
def gx (c:Int) (b:Int) (a:VI):Option (VI⊕(VI⊕VI)):=
 zm (idx a b) λe=>
 zm (setI a b (zr .i64 (1-(zx c 2)))) λd=>
 some (.inr (.inr (d:VI)))
def eh (d:Int) (e:VI×(List (query×VI))) (c:Int) (a:VI):Option (VI⊕(VI⊕VI)):=
 zm (idx e.1 c) λb=>
 zm (idx a b) λg=>
 zm (setI a b (zx d 2)) λf=>
 some (.inr (.inr (f:VI)))
def iD (p0:Parity):Option VI:=
 zm (d7 p0) λj=>
 bif (!j) then
  some ([]:VI)
 else
  zm (ij p0.Arena) λa=>
  zm (ip p0 a) λb=>
  zm (mkS 8 (a.length:Int) (0:Int)) λc=>
  zm (cntM (gx b) c.length 0 (c:VI)) λe=>
  aft some (λg=>
   zm (jS p0) λk=>
   zm (cI (2 ^ 64) k a (zx b 2) b (a.length:Int) (a.length:Int)) λd=>
   zm (cntM (eh b d) d.1.length 0 (g:VI)) λf=>
   aft some (λi=>
    some (i:VI)) f) e
def jR (p0:Int):Option Bool:=
 zm (bif (p0==0) then
 some true
 else
 some (p0==1)) λa=>
 some (a:Bool)
def dH (p0:Arena) (p1:Int) (a:Int) (b:VI):Option (VI⊕(VI⊕VI)):=
 zm (idx p0.Next a) λd=>
 zm (idx p0.Owner a) λe=>
 zm (bif (e==p1) then
  zm (idx d 0) λf=>
  zm (idx b a) λi=>
  zm (setI b a f) λg=>
  some (g:VI)
 else
  some (b:VI)) λc=>
 some (.inr (.inr (c:VI)))
def gB (p0:Arena) (p1:Int):Option VI:=
 zm (iw p0) λf=>
 zm (bif (!f) then
 some true
 else
 zm (jR p1) λd=>
 some (!d)) λa=>
 bif a then
  some ([]:VI)
 else
  zm (fC p0) λe=>
  zm (cntM (dH p0 p1) p0.Next.length 0 (e:VI)) λb=>
  aft some (λc=>
   some (c:VI)) b
def bT (p0:VI) (p1:Int) (a:Int) (c:Unit):Option (Int⊕(Unit⊕Unit)):=
 zm (idx p0 a) λb=>
 bif (p1==b) then
  some (.inl (a:Int))
 else
  some (.inr (.inr ()))
def bR (p0:VI) (p1:Int):Option Int:=
 zm (cntM (bT p0 p1) p0.length 0 ()) λa=>
 aft some (λb=>
  some ((-1):Int)) a
def bs (p0:VI) (p1:Int):Option Bool:=
 zm (bR p0 p1) λa=>
 some (decide (0<=a):Bool)
def gT (p0:VI) (a:Int×VI):Option (Lasso⊕((Int×VI)⊕(Int×VI))):=
 zm (bs a.2 a.1) λb=>
 bif (!b) then
  zm (appS 8 a.2 ([a.1]:VI)) λc=>
  zm (idx p0 a.1) λd=>
  some (.inr (.inr (d,c)))
 else
  some (.inr (.inl (a.1,a.2)))
def jv (p0:VI) (p1:Int):Option (Lasso):=
 zm (bn (gT p0) (2 ^ 64) (p1,([]:VI))) λc=>
 aft some (λa=>
  zm (bR a.2 a.1) λb=>
  zm (subS a.2 0 b) λd=>
  zm (subS a.2 b (a.2.length:Int)) λe=>
  some ((⟨d,e⟩:Lasso):Lasso)) c
def dZ (p0:Parity) (p1:Int) (p2:Int):Option Bool:=
 zm (idx p0.Prio p1) λc=>
 zm (idx p0.Prio p2) λd=>
 zm (bif decide (d<c) then
 some true
 else
 zm (idx p0.Prio p1) λe=>
 zm (idx p0.Prio p2) λf=>
 zm (bif (e==f) then
 some (decide (p2<p1))
 else
 some false) λa=>
 some a) λb=>
 some (b:Bool)
def fN (p0:Parity) (p1:Lasso) (d:Int) (a:Int):Option (Worth⊕(Int⊕Int)):=
 zm (idx p1.Loop d) λb=>
 zm (dZ p0 b a) λe=>
 zm (bif e then
  some (b:Int)
 else
  some (a:Int)) λc=>
 some (.inr (.inr (c:Int)))
def fO (p0:Parity) (c:Int) (f:VI) (e:Int) (a:VI×Int):Option (Worth⊕((VI×Int)⊕(VI×Int))):=
 zm (idx f e) λb=>
 bif (b==c) then
  some (.inr (.inl (a.1,a.2)))
 else
  zm (dZ p0 b c) λg=>
  zm (bif g then
   zm (appS 8 a.1 ([b]:VI)) λi=>
   some (i:VI)
  else
   some (a.1:VI)) λd=>
  some (.inr (.inr (d,((zr .i64 (a.2+1)):Int))))
def jA (p0:Parity) (p1:Lasso):Option (Worth):=
 zm (idx p1.Loop 0) λf=>
 zm (cntM (fN p0 p1) p1.Loop.length 0 (f:Int)) λd=>
 aft some (λa=>
  zm (appS 8 ([]:VI) p1.Stem) λg=>
  zm (appS 8 g p1.Loop) λc=>
  zm (cntM (fO p0 a c) c.length 0 (([]:VI),(0:Int))) λe=>
  aft some (λb=>
   zm (bH b.1) λi=>
   some ((⟨a,i,b.2⟩:Worth):Worth)) e) d
def gC (p0:Parity) (p1:Worth) (p2:Worth) (b:Int) (a:Int×Bool):Option (Bool⊕((Int×Bool)⊕(Int×Bool))):=
 zm (bs p1.Over b) λd=>
 zm (bs p2.Over b) λg=>
 zm (bif (d !=g) then
 zm (bif decide (a.1<0) then
 some true
 else
 zm (dZ p0 b a.1) λi=>
 some i) λe=>
 some e
 else
 some false) λf=>
 zm (bif f then
  some (b,d)
 else
  some (a.1,a.2)) λc=>
 some (.inr (.inr (c.1,c.2)))
def iF (p0:Parity) (p1:Worth) (p2:Worth):Option Bool:=
 zm (idx p0.Prio p1.Head) λa=>
 zm (idx p0.Prio p2.Head) λe=>
 bif (p1.Head !=p2.Head) then
  bif (((zx a 2)==0) !=((zx e 2)==0)) then
   some (((zx a 2)==0):Bool)
  else
   bif ((zx a 2)==0) then
    zm (dZ p0 p1.Head p2.Head) λf=>
    some (f:Bool)
   else
    zm (dZ p0 p2.Head p1.Head) λg=>
    some (g:Bool)
 else
  zm (lB p0.Arena) λc=>
  zm (rng c) λ_=>
  zm (cntM (gC p0 p1 p2) (zq (c-0)) 0 (((-1):Int),false)) λd=>
  aft some (λb=>
   bif decide (0<=b.1) then
    zm (idx p0.Prio b.1) λi=>
    some ((((zx i 2)==0)==b.2):Bool)
   else
    bif ((zx a 2)==0) then
     some (decide (p1.Way<p2.Way):Bool)
    else
     some (decide (p2.Way<p1.Way):Bool)) d
def dA (p0:Parity) (c:Int) (a:Int×VI):Option ((List Worth)⊕((Int×VI)⊕(Int×VI))):=
 zm (idx p0.Arena.Next c) λb=>
 zm (idx p0.Arena.Owner c) λe=>
 zm (bif (e==1) then
  zm (nz (b.length:Int)) λ_z48=>
  zm (idx b (zx a.1 (b.length:Int))) λf=>
  zm (idx a.2 c) λi=>
  zm (setI a.2 c f) λg=>
  zm (nz (b.length:Int)) λ_z55=>
  some (((zr .i64 (Int.tdiv a.1 (b.length:Int))):Int),g)
 else
  some (a.1,a.2)) λd=>
 some (.inr (.inr (d.1,d.2)))
def dB (e:Int×VI) (a:Int) (b:VI):Option ((List Worth)⊕(VI⊕VI)):=
 zm (idx e.2 a) λc=>
 zm (idx b a) λd=>
 zm (idx b a) λg=>
 zm (setI b a (if d<c then c else d)) λf=>
 some (.inr (.inr (f:VI)))
def dC (p0:Parity) (g:VI) (b:Int) (a:(List Worth)):Option ((List Worth)⊕(((List Worth))⊕((List Worth)))):=
 zm (jv g b) λj=>
 zm (jA p0 j) λc=>
 zm (idx a b) λk=>
 zm (bif (k.Head==(-1)) then
 some true
 else
 zm (idx a b) λd=>
 zm (nlk (d.Head==(-1))) λ_z98=>
 zm (iF p0 d c) λi=>
 some i) λe=>
 zm (bif e then
  zm (idx a b) λm=>
  zm (nlk (c.Head==(-1))) λ_z364=>
  zm (setI a b (c:Worth)) λl=>
  some (l:(List Worth))
 else
  some (a:(List Worth))) λf=>
 some (.inr (.inr (f:(List Worth))))
def eA (p0:Parity) (p1:VI) (l:(List Worth)) (k:Int) (f:(List Worth)):Option ((List Worth)⊕(((List Worth))⊕((List Worth)))):=
 zm (fC p0.Arena) λb=>
 zm (cntM (dA p0) p0.Arena.Next.length 0 (k,b)) λd=>
 aft (λa=>some (.inl a)) (λj=>
  zm (appS 8 ([]:VI) p1) λm=>
  zm (cntM (dB j) b.length 0 (m:VI)) λe=>
  aft (λa=>some (.inl a)) (λg=>
   zm (cntM (dC p0 g) l.length 0 (f:(List Worth))) λc=>
   aft (λa=>some (.inl a)) (λi=>
    some (.inr (.inr (i:(List Worth))))) c) e) d
def eK (p0:Parity) (p1:VI):Option ((List Worth)):=
 zm (mkS 40 (p1.length:Int) (⟨-1,[],0⟩:Worth)) λb=>
 zm (dO p0) λc=>
 zm (rng c) λ_=>
 zm (cntM (eA p0 p1 b) (zq (c-0)) 0 (b:(List Worth))) λd=>
 aft some (λa=>
  zm (nlk (a.any λe=>(e.Head==(-1)))) λ_zr=>
  some (a:(List Worth))) d
def de (p0:Parity) (b:(List Worth)) (f:VI) (e:Int) (a:Int):Option (VI⊕(Int⊕Int)):=
 zm (idx f e) λc=>
 zm (idx b c) λg=>
 zm (idx b a) λi=>
 zm (iF p0 g i) λj=>
 zm (bif j then
  some (c:Int)
 else
  some (a:Int)) λd=>
 some (.inr (.inr (d:Int)))
def dc (p0:Parity) (p1:VI) (c:(List Worth)) (a:Int) (b:VI):Option (VI⊕(VI⊕VI)):=
 zm (idx p0.Arena.Next a) λd=>
 zm (idx p0.Arena.Owner a) λk=>
 bif (k !=0) then
  some (.inr (.inr (b:VI)))
 else
  zm (idx d 0) λl=>
  zm (cntM (de p0 c d) d.length 0 (l:Int)) λg=>
  aft (λj=>some (.inl j)) (λf=>
   zm (idx p1 a) λm=>
   zm (idx b a) λs=>
   zm (setI b a m) λe=>
   zm (idx c f) λn=>
   zm (idx p1 a) λo=>
   zm (idx c o) λp=>
   zm (iF p0 n p) λq=>
   zm (bif q then
    zm (idx e a) λt=>
    zm (setI e a f) λr=>
    some (r:VI)
   else
    some (e:VI)) λi=>
   some (.inr (.inr (i:VI)))) g
def fp (p0:Parity) (p1:VI):Option VI:=
 zm (eK p0 p1) λc=>
 zm (fC p0.Arena) λd=>
 zm (cntM (dc p0 p1 c) p0.Arena.Next.length 0 (d:VI)) λa=>
 aft some (λb=>
  some (b:VI)) a
def bQ (p0:VI) (p1:VI) (a:Int) (d:Unit):Option (Bool⊕(Unit⊕Unit)):=
 zm (idx p0 a) λb=>
 zm (idx p1 a) λc=>
 bif (b !=c) then
  some (.inl (false:Bool))
 else
  some (.inr (.inr ()))
def bP (p0:VI) (p1:VI):Option Bool:=
 bif ((p0.length:Int) !=(p1.length:Int)) then
  some (false:Bool)
 else
  zm (cntM (bQ p0 p1) p0.length 0 ()) λa=>
  aft some (λb=>
   some (true:Bool)) a
def dt (p0:Parity) (a:VI):Option (VI⊕(VI⊕VI)):=
 zm (fp p0 a) λb=>
 zm (bP b a) λc=>
 bif c then
  some (.inl (a:VI))
 else
  some (.inr (.inr (b:VI)))
def jQ (p0:Parity):Option VI:=
 zm (gB p0.Arena 0) λb=>
 zm (bn (dt p0) (2 ^ 64) (b:VI)) λa=>
 aft some (λc=>
  none) a
def da (p0:Parity) (c:(List Worth)) (b:Int) (a:VI):Option (VI⊕(VI⊕VI)):=
 zm (idx c b) λd=>
 zm (idx p0.Prio d.Head) λe=>
 zm (appS 8 a ([(zx e 2)]:VI)) λf=>
 some (.inr (.inr (f:VI)))
def fg (p0:Parity):Option VI:=
 zm (d7 p0) λg=>
 zm (bif (!g) then
 some true
 else
 zm (dO p0) λe=>
 some (decide (e<0))) λb=>
 bif b then
  some ([]:VI)
 else
  zm (jQ p0) λf=>
  zm (eK p0 f) λa=>
  zm (cntM (da p0 a) a.length 0 ([]:VI)) λc=>
  aft some (λd=>
   some (d:VI)) c
def fq (p0:Parity):Option (Stage):=
 zm (fC p0.Arena) λc=>
 zm (appS 8 ([]:VI) p0.Prio) λd=>
 zm (ij p0.Arena) λa=>
 zm (ip p0 a) λb=>
 some ((⟨c,d,b⟩:Stage):Stage)
def jb (p0:Stage):Option (Stage):=
 zm (appS 8 ([]:VI) p0.Won) λb=>
 zm (appS 8 ([]:VI) p0.Region) λa=>
 some ((⟨b,a,p0.At⟩:Stage):Stage)
def fl (p0:Stage) (p1:Int) (b:Int) (a:VI):Option (VI⊕(VI⊕VI)):=
 zm (idx p0.Region b) λc=>
 zm (bif decide (0<=c) then
 some (decide (c<=p1))
 else
 some false) λd=>
 zm (bif d then
  zm (appS 8 a ([b]:VI)) λf=>
  some (f:VI)
 else
  some (a:VI)) λe=>
 some (.inr (.inr (e:VI)))
def dX (p0:Stage) (p1:Int):Option VI:=
 zm (cntM (fl p0 p1) p0.Region.length 0 ([]:VI)) λa=>
 aft some (λb=>
  some (b:VI)) a
def cZ (p0:Parity) (p1:Stage):Option VI:=
 zm (dX p1 p1.At) λa=>
 zm (dX p1 (zr .i64 (p1.At-1))) λb=>
 zm (gH a b) λc=>
 zm (eQ p0.Arena (zx p1.At 2) a c) λd=>
 some (d:VI)
def eU (p0:Parity) (p1:Stage) (b:VB) (j:VB) (g:Int) (k:VI) (i:Int) (f:Bool):Option (Bool⊕(Bool⊕Bool)):=
 zm (idx k i) λa=>
 zm (bif f then
 some true
 else
 zm (idx b a) λl=>
 some l) λc=>
 zm (idx p0.Arena.Owner g) λm=>
 zm (bif (m !=(zx p1.At 2)) then
 zm (idx j a) λn=>
 some n
 else
 some false) λd=>
 zm (bif d then
 zm (idx b a) λo=>
 some (!o)
 else
 some false) λe=>
 bif e then
  some (.inl (false:Bool))
 else
  some (.inr (.inr (c:Bool)))
def gU (p0:Parity) (p1:Stage) (b:VB) (i:VB) (a:Int) (l:Unit):Option (Bool⊕(Unit⊕Unit)):=
 zm (idx b a) λj=>
 bif (!j) then
  some (.inr (.inr ()))
 else
  zm (idx p0.Arena.Next a) λc=>
  zm (cntM (eU p0 p1 b i a c) c.length 0 (false:Bool)) λe=>
  aft (λf=>some (.inl f)) (λg=>
   zm (idx p0.Arena.Owner a) λk=>
   zm (bif (k==(zx p1.At 2)) then
   some (!g)
   else
   some false) λd=>
   bif d then
    some (.inl (false:Bool))
   else
    some (.inr (.inr ()))) e
def kn (p0:Parity) (p1:Stage):Option Bool:=
 zm (cZ p0 p1) λc=>
 zm (fB p0.Arena c) λa=>
 zm (dX p1 p1.At) λd=>
 zm (fB p0.Arena d) λe=>
 zm (cntM (gU p0 p1 a e) a.length 0 ()) λb=>
 aft some (λf=>
  some (true:Bool)) b
def dN (p1:Stage) (j:VB) (k:VI) (i:Int) (a:Int):Option (Int⊕(Int⊕Int)):=
 zm (idx k i) λc=>
 zm (idx p1.Region c) λb=>
 zm (bif decide (0<=b) then
 zm (idx j c) λl=>
 some (!l)
 else
 some false) λd=>
 zm (bif d then
 zm (bif decide (a<0) then
 some true
 else
 some (decide (b<a))) λe=>
 some e
 else
 some false) λf=>
 zm (bif f then
  some (b:Int)
 else
  some (a:Int)) λg=>
 some (.inr (.inr (g:Int)))
def dM (p0:Parity) (p1:Stage) (c:VB) (a:Int) (b:Int):Option (Int⊕(Int⊕Int)):=
 zm (idx c a) λj=>
 zm (bif (!j) then
 some true
 else
 zm (idx p0.Arena.Owner a) λk=>
 some (k==(zx p1.At 2))) λe=>
 bif e then
  some (.inr (.inr (b:Int)))
 else
  zm (idx p0.Arena.Next a) λd=>
  zm (cntM (dN p1 c d) d.length 0 (b:Int)) λf=>
  aft (λg=>some (.inl g)) (λi=>
   some (.inr (.inr (i:Int)))) f
def gG (p0:Parity) (p1:Stage):Option Int:=
 zm (cZ p0 p1) λd=>
 zm (fB p0.Arena d) λa=>
 zm (cntM (dM p0 p1 a) a.length 0 ((-1):Int)) λb=>
 aft some (λc=>
  some (c:Int)) b
def d8 (p1:Stage) (d:VI) (c:Int) (a:VI):Option ((Stage×Int)⊕(VI⊕VI)):=
 zm (idx d c) λb=>
 zm (idx a b) λf=>
 zm (setI a b p1.At) λe=>
 some (.inr (.inr (e:VI)))
def cN (p1:Stage) (d:VI) (c:Int) (a:Int):Option ((Stage×Int)⊕(Int⊕Int)):=
 zm (idx d c) λe=>
 zm (idx p1.Region e) λb=>
 some (.inr (.inr ((if a<b then b else a):Int)))
def cm (p0:Parity) (f:Int) (b:Int) (a:VI):Option ((Stage×Int)⊕(VI⊕VI)):=
 zm (idx a b) λc=>
 zm (bif decide (0<=c) then
 some (decide (c<f))
 else
 some false) λd=>
 zm (bif d then
  zm (idx p0.Prio b) λg=>
  zm (idx a b) λj=>
  zm (setI a b g) λi=>
  some (i:VI)
 else
  some (a:VI)) λe=>
 some (.inr (.inr (e:VI)))
def d9 (d:VI) (e:Int) (c:Int) (a:VI):Option ((Stage×Int)⊕(VI⊕VI)):=
 zm (idx d c) λb=>
 zm (idx a b) λg=>
 zm (setI a b e) λf=>
 some (.inr (.inr (f:VI)))
def cO (p1:Stage) (d:VI) (c:Int) (a:VI×VI):Option ((Stage×Int)⊕((VI×VI)⊕(VI×VI))):=
 zm (idx d c) λb=>
 zm (idx a.1 b) λg=>
 zm (setI a.1 b (zx p1.At 2)) λe=>
 zm (idx a.2 b) λi=>
 zm (setI a.2 b (-1)) λf=>
 some (.inr (.inr (e,f)))
def cb (p0:Parity) (b:Int) (a:Int×VI):Option ((Stage×Int)⊕((Int×VI)⊕(Int×VI))):=
 zm (idx a.2 b) λe=>
 zm (bif decide (0<=e) then
  zm (idx p0.Prio b) λf=>
  zm (idx a.2 b) λi=>
  zm (setI a.2 b f) λg=>
  zm (idx p0.Prio b) λd=>
  some (((if a.1<d then d else a.1):Int),g)
 else
  some (a.1,a.2)) λc=>
 some (.inr (.inr (c.1,c.2)))
def er (p0:Parity) (p1:Stage):Option (Stage×Int):=
 zm (jb p1) λa=>
 zm (cZ p0 p1) λb=>
 zm (kn p0 p1) λt=>
 bif (!t) then
  zm (cntM (d8 p1 b) b.length 0 (a.Region:VI)) λl=>
  aft some (λp=>
   zm (dX p1 p1.At) λu=>
   zm (gH u b) λg=>
   zm (cntM (cN p1 g) g.length 0 ((-1):Int)) λm=>
   aft some (λq=>
    some (((⟨a.Won,p,q⟩:Stage):Stage),(1:Int))) m) l
 else
  zm (gG p0 p1) λc=>
  bif decide (0<=c) then
   zm (cntM (cm p0 c) a.Region.length 0 (a.Region:VI)) λn=>
   aft some (λr=>
    zm (cntM (d9 b c) b.length 0 (r:VI)) λi=>
    aft some (λo=>
     some (((⟨a.Won,o,c⟩:Stage):Stage),(2:Int))) i) n
  else
   zm (dX p1 40) λs=>
   zm (eQ p0.Arena (zx p1.At 2) s b) λf=>
   zm (cntM (cO p1 f) f.length 0 (a.Won,a.Region)) λj=>
   aft some (λd=>
    zm (cntM (cb p0) a.Region.length 0 (((-1):Int),d.2)) λk=>
    aft some (λe=>
     some (((⟨d.1,e.2,e.1⟩:Stage):Stage),(3:Int))) k) j
def ey (p0:Parity) (a:(List Stage)):Option ((List Stage)⊕(((List Stage))⊕((List Stage)))):=
 zm (idx a (zr .i64 ((a.length:Int)-1))) λb=>
 bif (b.At==(-1)) then
  some (.inl (a:(List Stage)))
 else
  zm (er p0 b) λc=>
  zm (appS 56 a ([c.1]:List Stage)) λd=>
  some (.inr (.inr (d:(List Stage))))
def iK (p0:Parity):Option ((List Stage)):=
 zm (fq p0) λb=>
 zm (bn (ey p0) (2 ^ 64) (([b]:List Stage):(List Stage))) λa=>
 aft some (λc=>
  none) a
def fi (p0:Parity):Option VI:=
 zm (d7 p0) λc=>
 bif (!c) then
  some ([]:VI)
 else
  zm (iK p0) λa=>
  zm (idx a (zr .i64 ((a.length:Int)-1))) λb=>
  some (b.Won:VI)
def lY (p0:Parity):Option VV:=
 zm (d7 p0) λg=>
 zm (bif (!g) then
 some true
 else
 zm (dO p0) λi=>
 some (decide (i<0))) λa=>
 bif a then
  some ([]:VV)
 else
  zm (gh p0) λb=>
  zm (fh p0) λc=>
  zm (iD p0) λd=>
  zm (fg p0) λe=>
  zm (fi p0) λf=>
  some (([b,c,d,e,f]:VV):VV)
def dW (a:VV) (b:Int) (f:Unit):Option (Bool⊕(Unit⊕Unit)):=
 zm (idx a b) λc=>
 zm (idx a 0) λd=>
 zm (bP c d) λe=>
 bif (!e) then
  some (.inl (false:Bool))
 else
  some (.inr (.inr ()))
def jr (p0:Parity):Option Bool:=
 zm (lY p0) λa=>
 zm (cntM (dW a) a.length 0 ()) λb=>
 aft some (λc=>
  some (((a.length:Int)==5):Bool)) b
def p7 (p0:Bool):Option (ByteArray):=
 bif p0 then
  some ((ByteArray.mk #[121]):ByteArray)
 else
  some ((ByteArray.mk #[110]):ByteArray)
def bX (p0:bench) (p1:ByteArray):Option (ByteArray):=
 bif (eqB p1 (ByteArray.mk #[119,105,110,115])) then
  none
 else
  bif (eqB p1 (ByteArray.mk #[115,116,97,116,101,115])) then
   none
  else
   bif (eqB p1 (ByteArray.mk #[109,97,99,104,105,110,101])) then
    none
   else
    bif (eqB p1 (ByteArray.mk #[99,104,101,99,107,115])) then
     none
    else
     bif (eqB p1 (ByteArray.mk #[99,111,117,110,116,101,114])) then
      none
     else
      bif (eqB p1 (ByteArray.mk #[115,111,108,118,101])) then
       zm (dr p0) λa=>
       some (a:ByteArray)
      else
       bif (eqB p1 (ByteArray.mk #[119,97,121,115])) then
        zm (dI p0.game) λb=>
        bif (!b) then
         some ((ByteArray.mk #[101,114,114,111,114]):ByteArray)
        else
         zm (jr p0.game) λc=>
         zm (p7 c) λd=>
         some (d:ByteArray)
       else
        bif (eqB p1 (ByteArray.mk #[99,108,101,97,114])) then
         none
        else
         some ((ByteArray.mk #[101,114,114,111,114]):ByteArray)
def cE (p0:bench) (p1:ByteArray):Option (ByteArray×VI×VV×VI):=
 zm (strings_Split p1 (ByteArray.mk #[32])) λa=>
 zm (idx a 0) λm=>
 zm (catB m (ByteArray.mk #[32])) λn=>
 zm (strings_TrimPrefix p1 n) λo=>
 zm (idx a 0) λp=>
 zm (bif (eqB p (ByteArray.mk #[99,108,97,117,115,101])) then
 some (decide (1<(a.length:Int)))
 else
 some false) λe=>
 bif e then
  none
 else
  zm (idx a 0) λq=>
  zm (bif (eqB q (ByteArray.mk #[118,101,114,116,101,120])) then
  some (decide (1<(a.length:Int)))
  else
  some false) λf=>
  bif f then
   zm (dJ p0 o) λb=>
   some (b.1,b.2.1,b.2.2.1,b.2.2.2)
  else
   bif ((a.length:Int)==1) then
    zm (bX p0 p1) λr=>
    some (r,p0.game.Arena.Owner,p0.game.Arena.Next,p0.game.Prio)
   else
    zm (bif ((a.length:Int)==2) then
    zm (idx a 0) λs=>
    some (eqB s (ByteArray.mk #[114,117,110]))
    else
    some false) λg=>
    bif g then
     none
    else
     zm (bif ((a.length:Int)==2) then
     zm (idx a 0) λt=>
     some (eqB t (ByteArray.mk #[97,103,97,105,110,115,116]))
     else
     some false) λi=>
     bif i then
      none
     else
      zm (bif ((a.length:Int)==3) then
      zm (idx a 0) λu=>
      some (eqB u (ByteArray.mk #[115,105,103]))
      else
      some false) λj=>
      bif j then
       none
      else
       zm (bif ((a.length:Int)==3) then
       zm (idx a 0) λk=>
       some (eqB k (ByteArray.mk #[119,111,114,100]))
       else
       some false) λc=>
       bif c then
        none
       else
        zm (bif ((a.length:Int)==3) then
        zm (idx a 0) λl=>
        some (eqB l (ByteArray.mk #[118,97,108,117,101]))
        else
        some false) λd=>
        bif d then
         none
        else
         some (((ByteArray.mk #[101,114,114,111,114]):ByteArray),p0.game.Arena.Owner,p0.game.Arena.Next,p0.game.Prio)
def dG (f:(List ByteArray)) (e:Int) (a:ByteArray×VI×VV×VI):Option (ByteArray⊕((ByteArray×VI×VV×VI)⊕(ByteArray×VI×VV×VI))):=
 zm (idx f e) λd=>
 zm (bif (!(eqB d (ByteArray.mk #[]))) then
  zm (cE (⟨(⟨1,1⟩:Sig),([]:List Clause),(⟨(⟨a.2.1,a.2.2.1⟩:Arena),a.2.2.2⟩:Parity)⟩:bench) d) λc=>
  zm (catB c.1 (ByteArray.mk #[10])) λg=>
  zm (catB a.1 g) λi=>
  some (i,c.2.1,c.2.2.1,c.2.2.2)
 else
  some (a.1,a.2.1,a.2.2.1,a.2.2.2)) λb=>
 some (.inr (.inr (b.1,b.2.1,b.2.2.1,b.2.2.2)))
def lW (p0:ByteArray):Option (ByteArray):=
 zm (strings_TrimSuffix p0 (ByteArray.mk #[10])) λe=>
 zm (strings_Split e (ByteArray.mk #[10])) λa=>
 zm (bif decide (4000<(p0.size:Int)) then
 some true
 else
 some (decide (200<(a.length:Int)))) λb=>
 bif b then
  some ((ByteArray.mk #[]):ByteArray)
 else
  zm (cntM (dG a) a.length 0 (((ByteArray.mk #[]):ByteArray),([]:VI),([]:VV),([]:VI))) λc=>
  aft some (λd=>
   some (d.1:ByteArray)) c
def gj (p0:ByteArray) (b:Int) (a:(List ByteArray)×Int):Option ((List ByteArray)⊕(((List ByteArray)×Int)⊕((List ByteArray)×Int))):=
 zm (idxB p0 b) λd=>
 zm (bif (d==10) then
  zm (subB p0 a.2 b) λe=>
  zm (appS 16 a.1 ([e]:List ByteArray)) λf=>
  some (f,((zr .i64 (b+1)):Int))
 else
  some (a.1,a.2)) λc=>
 some (.inr (.inr (c.1,c.2)))
def mi (p0:ByteArray):Option ((List ByteArray)):=
 zm (rng (p0.size:Int)) λ_=>
 zm (cntM (gj p0) (zq ((p0.size:Int)-0)) 0 ((([]:List ByteArray):(List ByteArray)),(0:Int))) λa=>
 aft some (λb=>
  some (b.1:(List ByteArray))) a
def cS (c:Parity×Int×Int) (b:Int) (a:ByteArray):Option (Bool⊕((ByteArray)⊕(ByteArray))):=
 zm (catB a (ByteArray.mk #[118,101,114,116,101,120,32])) λd=>
 zm (fV c.1 b) λe=>
 zm (catB d e) λf=>
 zm (catB f (ByteArray.mk #[10])) λg=>
 some (.inr (.inr (g:ByteArray)))
def co (b:Answer) (a:Int) (c:ByteArray):Option (Bool⊕((ByteArray)⊕(ByteArray))):=
 zm (bif decide (0<a) then
  zm (catB c (ByteArray.mk #[44,32])) λg=>
  some (g:ByteArray)
 else
  some (c:ByteArray)) λe=>
 zm (idx b.Won a) λi=>
 zm (idx ([(ByteArray.mk #[101,118,101,110]),(ByteArray.mk #[111,100,100])]:List ByteArray) i) λj=>
 zm (catB e j) λk=>
 zm (catB k (ByteArray.mk #[32])) λd=>
 zm (idx b.Plan a) λl=>
 zm (bif decide (l<0) then
  zm (catB d (ByteArray.mk #[45])) λm=>
  some (m:ByteArray)
 else
  zm (idx b.Plan a) λn=>
  zm (jB n) λo=>
  zm (catB d o) λp=>
  some (p:ByteArray)) λf=>
 some (.inr (.inr (f:ByteArray)))
def gz (p0:VI):Option Bool:=
 zm (tx p0) λk=>
 bif k then
  some (true:Bool)
 else
  zm (ou p0 618) λl=>
  zm (kq l 6) λa=>
  zm (cntM (cS a) a.1.Prio.length 0 ((ByteArray.mk #[]):ByteArray)) λf=>
  aft some (λi=>
   zm (ky a.1) λc=>
   zm (cntM (co c) c.Won.length 0 ((ByteArray.mk #[]):ByteArray)) λg=>
   aft some (λj=>
    zm (catB i (ByteArray.mk #[115,111,108,118,101,10,119,97,121,115,10])) λm=>
    zm (lW m) λn=>
    zm (mi n) λb=>
    zm (bif ((b.length:Int)==(zr .i64 ((a.1.Prio.length:Int)+2))) then
    zm (idx b (a.1.Prio.length:Int)) λo=>
    some (eqB o j)
    else
    some false) λd=>
    zm (bif d then
    zm (idx b (zr .i64 ((a.1.Prio.length:Int)+1))) λp=>
    some (eqB p (ByteArray.mk #[121]))
    else
    some false) λe=>
    some (e:Bool)) g) f
end Go.Proofs.YtgbippnfaoedmaaGreatDoor
