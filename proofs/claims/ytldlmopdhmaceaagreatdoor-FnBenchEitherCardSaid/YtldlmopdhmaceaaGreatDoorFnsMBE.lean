/- The functions on data. By program. -/
import Derived.Test.YtldlmopdhmaceaaGreatDoorTypesBE
import Derived.Test.YtldlmopdhmaceaaGreatDoorCmpBE
import Derived.Test.YtldlmopdhmaceaaGreatDoorCompBE
set_option linter.unusedVariables false
set_option linter.unusedSimpArgs false
open Int renaming tmod → F2, toNat → FV
open Go.IntKind renaming bits → F3, i64 → F4, u64 → F5, wrap → FW
open Option renaming bind → FR
namespace Go.Proofs.YtldlmopdhmaceaaGreatDoor
open Go Go.Wk Go.Proofs
set_option maxRecDepth 100000
set_option maxHeartbeats 1000000
def zX (p0:VI):Option Bool:=
 some (decide (4096<(p0.length:Int)):Bool)
def ph (p0:VI) (b:Int) (a:Int):LO dice Int:=
 FR (idx p0 b) λc=>
 some (.inr (.inr ((FW .u64 ((FW .u64 ((FW .u64 (a * 1099511628211))+(FW .u64 c)))+3)):Int)))
def wo (p0:VI) (p1:Int):Option (dice):=
 FR (cntM (ph p0) p0.length 0 (FW .u64 ((FW .u64 (p1 * 7919))+(FW .u64 (p0.length:Int))))) λa=>
 aft some (λb=>
  some ((⟨p0,0,b⟩:dice):dice)) a
def gR (p0:dice) (p1:Int):Option (Int×Int×Int):=
 FR (bif decide (p0.i<(p0.b.length:Int)) then
  FR (idx p0.b p0.i) λb=>
  some (((FW .i64 ((FW .i64 (FW .u64 (BitVec.toNat (BitVec.ofInt (F3 F5) (Int.fdiv (FW .u64 ((FW .u64 (p0.h * 6364136223846793005))+1442695040888963407)) (2 ^ (min (FV 33) (F3 F5)))) &&& BitVec.ofInt (F3 F5) 16777215))))+(FW .i64 b))):Int),(FW .i64 (p0.i+1)))
 else
  some (((FW .i64 (FW .u64 (BitVec.toNat (BitVec.ofInt (F3 F5) (Int.fdiv (FW .u64 ((FW .u64 (p0.h * 6364136223846793005))+1442695040888963407)) (2 ^ (min (FV 33) (F3 F5)))) &&& BitVec.ofInt (F3 F5) 16777215)))):Int),p0.i)) λa=>
 FR (nz p1) λ_z55=>
 some (((F2 a.1 p1):Int),a.2,(FW .u64 ((FW .u64 (p0.h * 6364136223846793005))+1442695040888963407)))
def nk (p0:dice) (d:Int) (a:VI×Int×Int):LO (VI×Int×Int) (VI×Int×Int):=
 FR (gR (⟨p0.b,a.2.1,a.2.2⟩:dice) 2) λb=>
 FR (bif (b.1==0) then
  FR (appS 8 a.1 ([d]:VI)) λe=>
  some e
 else
  some a.1) λc=>
 some (.inr (.inr (c,b.2.1,b.2.2)))
def qH (p0:dice) (p1:Int):Option (VI×Int×Int):=
 FR (rng p1) λ_=>
 FR (cntM (nk p0) (FV (p1-0)) 0 (([]:VI),p0.i,p0.h)) λb=>
 aft some (λa=>
  some (a.1,a.2.1,a.2.2)) b
def nj (p0:dice):Option (Clause×Int×Int):=
 FR (gR p0 7) λa=>
 FR (qH (⟨p0.b,a.2.1,a.2.2⟩:dice) 4) λb=>
 FR (bif ((FW .i64 (1+a.1))==2) then
 some true
 else
 some ((FW .i64 (1+a.1))==3)) λe=>
 FR (bif e then
 some true
 else
 some ((FW .i64 (1+a.1))==7)) λf=>
 FR (bif f then
  FR (qH (⟨p0.b,b.2.1,b.2.2⟩:dice) 4) λd=>
  some (d.2.1,d.2.2,d.1)
 else
  some (b.2.1,b.2.2,([]:VI))) λc=>
 some (((⟨(FW .i64 (1+a.1)),b.1,c.2.2⟩:Clause):Clause),c.1,c.2.1)
def jb (p0:dice) (a:VC×Int×Int×Int):LO (VC×Int×Int) (VC×Int×Int×Int):=
 bif decide (0<a.2.1) then
  FR (nj (⟨p0.b,a.2.2.1,a.2.2.2⟩:dice)) λb=>
  FR (appS 56 a.1 ([b.1]:VC)) λc=>
  some (.inr (.inr (c,(FW .i64 (a.2.1-1)),b.2.1,b.2.2)))
 else
  some (.inr (.inl (a.1,a.2.1,a.2.2.1,a.2.2.2)))
def lT (p0:dice) (p1:Int):Option (VC×Int×Int):=
 FR (gR p0 (FW .i64 (p1+1))) λb=>
 FR (ci (jb p0) (2 ^ 64) (([]:VC),b.1,b.2.1,b.2.2)) λc=>
 aft some (λa=>
  some (a.1,a.2.2.1,a.2.2.2)) c
def gz (p0:Int) (p1:Int) (p2:Int):Option Bool:=
 FR (bif decide (p1<=p0) then
 some (decide (p0<=p2))
 else
 some false) λa=>
 some a
def ma (p0:Sig):Option Bool:=
 FR (gz p0.In 1 2) λb=>
 FR (bif b then
 FR (gz p0.Out 1 2) λc=>
 some c
 else
 some false) λa=>
 some a
def ig  (a:Int×Int):LO Int (Int×Int):=
 bif decide (0<a.1) then
  some (.inr (.inr ((FW .i64 (a.1-1)),(FW .i64 (a.2 * 2)))))
 else
  some (.inr (.inl (a.1,a.2)))
def ff (p0:Int):Option Int:=
 FR (ci ig (2 ^ 64) (p0,(1:Int))) λa=>
 aft some (λb=>
  some b.2) a
def d6 (p0:Sig):Option Int:=
 FR (ma p0) λb=>
 bif (!b) then
  some (0:Int)
 else
  FR (ff (FW .i64 (p0.In+p0.Out))) λa=>
  some a
def kL (p0:VI) (p1:Int) (a:Int) (i:Unit):LO Bool Unit:=
 FR (idx p0 a) λd=>
 FR (gz d 0 (FW .i64 (p1-1))) λe=>
 FR (bif (!e) then
 some true
 else
 FR (bif decide (0<a) then
 FR (idx p0 a) λf=>
 FR (idx p0 (FW .i64 (a-1))) λg=>
 some (decide (f<=g))
 else
 some false) λb=>
 some b) λc=>
 bif c then
  some (.inl false)
 else
  some (.inr (.inr ()))
def py (p0:VI) (p1:Int):Option Bool:=
 FR (cntM (kL p0 p1) p0.length 0 ()) λa=>
 aft some (λb=>
  some true) a
def nJ (p0:VI) (p1:Int):Option Bool:=
 FR (bif decide ((p0.length:Int)<=p1) then
 FR (py p0 p1) λb=>
 some b
 else
 some false) λa=>
 some a
def pz (p0:Int):Option Bool:=
 FR (bif (p0==2) then
 some true
 else
 some (p0==3)) λb=>
 FR (bif b then
 some true
 else
 some (p0==7)) λa=>
 some a
def jy (p0:Sig) (p1:Clause):Option Bool:=
 FR (ma p0) λk=>
 FR (bif (!k) then
 some true
 else
 FR (gz p1.Kind 1 7) λf=>
 some (!f)) λb=>
 bif b then
  some false
 else
  FR (d6 p0) λa=>
  FR (nJ p1.A a) λg=>
  FR (bif g then
  FR (nJ p1.B a) λi=>
  some i
  else
  some false) λc=>
  FR (bif c then
  FR (pz p1.Kind) λj=>
  FR (bif j then
  some true
  else
  some ((p1.B.length:Int)==0)) λd=>
  some d
  else
  some false) λe=>
  some e
def qc  :Option ((List ByteArray)):=
 some (([(ByteArray.mk #[97,108,119,97,121,115]),(ByteArray.mk #[110,101,120,116]),(ByteArray.mk #[97,110,115,119,101,114]),(ByteArray.mk #[111,102,116,101,110]),(ByteArray.mk #[115,116,97,121,115]),(ByteArray.mk #[111,110,99,101]),(ByteArray.mk #[102,97,105,114])]:List ByteArray):(List ByteArray))
def uv  (a:Int×ByteArray):LO ByteArray (Int×ByteArray):=
 FR (bif (eqB a.2 (ByteArray.mk #[])) then
 some true
 else
 some (a.1 !=0)) λb=>
 bif b then
  FR (bif decide ((F2 a.1 10)<0) then
   some (FW .i64 (0-(F2 a.1 10)))
  else
   some ((F2 a.1 10):Int)) λc=>
  FR (catB (strB ([(FW .u8 (FW .i64 (48+c)))]:VI)) a.2) λd=>
  some (.inr (.inr ((FW .i64 (Int.tdiv a.1 10)),d)))
 else
  some (.inr (.inl (a.1,a.2)))
def An (p0:Int):Option (ByteArray):=
 FR (ci uv (2 ^ 64) (p0,((ByteArray.mk #[]):ByteArray))) λb=>
 aft some (λa=>
  FR (bif decide (p0<0) then
   FR (catB (ByteArray.mk #[45]) a.2) λd=>
   some d
  else
   some a.2) λc=>
  some c) b
def qV (p0:(List ByteArray)) (p1:ByteArray) (b:Int) (a:ByteArray):LO ByteArray (ByteArray):=
 FR (bif decide (0<b) then
  FR (catB a p1) λd=>
  some d
 else
  some a) λc=>
 FR (idx p0 b) λe=>
 FR (catB c e) λf=>
 some (.inr (.inr f))
def vJ (p0:(List ByteArray)) (p1:ByteArray):Option (ByteArray):=
 FR (cntM (qV p0 p1) p0.length 0 ((ByteArray.mk #[]):ByteArray)) λa=>
 aft some (λb=>
  some b) a
def nZ (p0:VI) (b:Int) (a:(List ByteArray)):LO ByteArray ((List ByteArray)):=
 FR (idx p0 b) λc=>
 FR (An c) λd=>
 FR (appS 16 a ([d]:List ByteArray)) λe=>
 some (.inr (.inr e))
def nM (p0:VI):Option (ByteArray):=
 bif ((p0.length:Int)==0) then
  some ((ByteArray.mk #[45]):ByteArray)
 else
  FR (cntM (nZ p0) p0.length 0 (([]:List ByteArray):(List ByteArray))) λa=>
  aft some (λb=>
   FR (vJ b (ByteArray.mk #[44])) λc=>
   some c) a
def gV (p0:Clause):Option (ByteArray):=
 FR (jy (⟨2,2⟩:Sig) p0) λk=>
 bif (!k) then
  some ((ByteArray.mk #[]):ByteArray)
 else
  FR (qc) λl=>
  FR (idx l (FW .i64 (p0.Kind-1))) λc=>
  FR (catB c (ByteArray.mk #[32])) λd=>
  FR (nM p0.A) λe=>
  FR (catB d e) λa=>
  FR (pz p0.Kind) λf=>
  FR (bif f then
   FR (catB a (ByteArray.mk #[32])) λg=>
   FR (nM p0.B) λi=>
   FR (catB g i) λj=>
   some j
  else
   some a) λb=>
  some b
def strings_TrimSuffix (p0 p1:ByteArray):Option (ByteArray):=tsufB p0 p1
def strings_Split (p0 p1:ByteArray):Option ((List ByteArray)):=splitS p0 p1
def strings_TrimPrefix (p0 p1:ByteArray):Option (ByteArray):=tpreB p0 p1
def lL (p0:Int):Option Bool:=
 FR (bif (p0==2) then
 some true
 else
 some (p0==3)) λb=>
 FR (bif b then
 some true
 else
 some (p0==7)) λa=>
 some a
def nY (p0:ByteArray) (a:Int) (c:Int):LO (Int×Bool) Int:=
 FR (idxB p0 a) λd=>
 FR (bif decide (d<48) then
 some true
 else
 FR (idxB p0 a) λe=>
 some (decide (57<e))) λb=>
 bif b then
  some (.inl ((0:Int),false))
 else
  FR (idxB p0 a) λf=>
  some (.inr (.inr ((FW .i64 ((FW .i64 (10 * c))+(FW .i64 (FW .u8 (f-48))))):Int)))
def kw (p0:ByteArray) (p1:Int):Option (Int×Bool):=
 FR (bif (eqB p0 (ByteArray.mk #[])) then
 some true
 else
 some (decide (9<(p0.size:Int)))) λb=>
 FR (bif b then
 some true
 else
 FR (idxB p0 0) λf=>
 FR (bif (f==48) then
 some (decide (1<(p0.size:Int)))
 else
 some false) λc=>
 some c) λd=>
 bif d then
  some ((0:Int),false)
 else
  FR (rng (p0.size:Int)) λ_=>
  FR (cntM (nY p0) (FV ((p0.size:Int)-0)) 0 (0:Int)) λe=>
  aft some (λa=>
   some (a,(decide (a<p1):Bool))) e
def mI (d:(List ByteArray)) (c:Int) (b:VI):LO (VI×Bool) VI:=
 FR (idx d c) λe=>
 FR (kw e 16) λa=>
 bif (!a.2) then
  some (.inl (([]:VI),false))
 else
  FR (appS 8 b ([a.1]:VI)) λf=>
  some (.inr (.inr f))
def mr (p0:ByteArray):Option (VI×Bool):=
 bif (eqB p0 (ByteArray.mk #[45])) then
  some (([]:VI),true)
 else
  FR (strings_Split p0 (ByteArray.mk #[44])) λa=>
  FR (cntM (mI a) a.length 0 ([]:VI)) λb=>
  aft some (λc=>
   some (c,true)) b
def dY (p0:Sig):Option Int:=
 FR (nn (FW .i64 (p0.In+p0.Out))) λ_z8=>
 some ((FW .i64 (1 * 2 ^ (min (FV (FW .i64 (p0.In+p0.Out))) (F3 F4)))):Int)
def na (p0:VI) (p1:Int) (a:Int) (g:Unit):LO Bool Unit:=
 FR (idx p0 a) λb=>
 FR (bif decide (b<0) then
 some true
 else
 some (decide (p1<=b))) λc=>
 FR (bif c then
 some true
 else
 FR (bif decide (0<a) then
 FR (idx p0 (FW .i64 (a-1))) λf=>
 some (decide (b<=f))
 else
 some false) λd=>
 some d) λe=>
 bif e then
  some (.inl false)
 else
  some (.inr (.inr ()))
def lN (p0:VI) (p1:Int):Option Bool:=
 FR (cntM (na p0 p1) p0.length 0 ()) λa=>
 aft some (λb=>
  some true) a
def ju (p0:Sig) (p1:Clause):Option Bool:=
 FR (bif decide (p1.Kind<1) then
 some true
 else
 some (decide (7<p1.Kind))) λa=>
 FR (bif a then
 some true
 else
 FR (dY p0) λe=>
 FR (lN p1.A e) λf=>
 some (!f)) λb=>
 FR (bif b then
 some true
 else
 FR (dY p0) λg=>
 FR (lN p1.B g) λi=>
 some (!i)) λc=>
 bif c then
  some false
 else
  FR (lL p1.Kind) λj=>
  FR (bif j then
  some true
  else
  some ((p1.B.length:Int)==0)) λd=>
  some d
def nW (d:(List ByteArray)) (a:Int) (c:Int):LO (Clause×Bool) Int:=
 FR (idx lV a) λe=>
 FR (idx d 0) λf=>
 FR (bif (eqB f e) then
  some (FW .i64 (a+1))
 else
  some c) λb=>
 some (.inr (.inr b))
def gG (p0:ByteArray):Option (Clause×Bool):=
 FR (strings_Split p0 (ByteArray.mk #[32])) λb=>
 FR (cntM (nW b) (FV (7-0)) 0 (0:Int)) λk=>
 aft some (λa=>
  FR (lL a) λl=>
  FR (bif l then
   some (3:Int)
  else
   some (2:Int)) λe=>
  FR (bif (a==0) then
  some true
  else
  some ((b.length:Int) !=e)) λg=>
  bif g then
   some (((⟨0,([]:VI),([]:VI)⟩:Clause):Clause),false)
  else
   FR (idx b 1) λm=>
   FR (mr m) λc=>
   FR (bif (e==3) then
    FR (idx b 2) λn=>
    FR (mr n) λf=>
    FR (bif c.2 then
    some f.2
    else
    some false) λi=>
    some (i,f.1)
   else
    some (c.2,([]:VI))) λd=>
   FR (bif (!d.1) then
   some true
   else
   FR (ju (⟨2,2⟩:Sig) (⟨a,c.1,d.2⟩:Clause)) λo=>
   some (!o)) λj=>
   bif j then
    some (((⟨0,([]:VI),([]:VI)⟩:Clause):Clause),false)
   else
    some (((⟨a,c.1,d.2⟩:Clause):Clause),true)) k
def jo (p0 p1:Int):Option (ByteArray):=fmtB p0 p1
def fB (p0:Int):Option (ByteArray):=
 FR (jo p0 10) λa=>
 some a
def iN (p0:bench) (p1:ByteArray):Option (ByteArray×VC):=
 FR (gG p1) λa=>
 FR (bif (!a.2) then
 some true
 else
 FR (ju p0.sig a.1) λe=>
 some (!e)) λc=>
 FR (bif c then
 some true
 else
 some (decide (3<=(p0.clauses.length:Int)))) λd=>
 bif d then
  some (((ByteArray.mk #[101,114,114,111,114]):ByteArray),p0.clauses)
 else
  FR (appS 56 p0.clauses ([a.1]:VC)) λb=>
  FR (fB (b.length:Int)) λf=>
  some (f,b)
def kU (p0:bench) (p1:ByteArray):Option (ByteArray):=
 none
def jN (p0:Sig):Option Bool:=
 FR (bif decide (1<=p0.In) then
 some (decide (p0.In<=2))
 else
 some false) λa=>
 FR (bif a then
 some (decide (1<=p0.Out))
 else
 some false) λb=>
 FR (bif b then
 some (decide (p0.Out<=2))
 else
 some false) λc=>
 some c
def fR (p0:Clause) (c0:Sig):Option Bool:=
 FR (ju c0 p0) λa=>
 some (!a)
def cq (p0:VC) (c1_0:Sig) (a:Int) (d:Unit):LO Int Unit:=
 FR (idx p0 a) λb=>
 FR (fR b c1_0) λc=>
 bif c then
  some (.inl a)
 else
  some (.inr (.inr ()))
def cw (p0:VC) (c1_0:Sig):Option Int:=
 FR (cntM (cq p0 c1_0) p0.length 0 ()) λa=>
 aft some (λb=>
  some ((-1):Int)) a
def co (p0:VC) (c1_0:Sig):Option Bool:=
 FR (cw p0 c1_0) λa=>
 some (decide (0<=a):Bool)
def ko (p0:Sig) (p1:VC):Option Bool:=
 FR (bif decide ((p1.length:Int)<=3) then
 FR (co p1 p0) λb=>
 some (!b)
 else
 some false) λa=>
 some a
def dL (p0:VI) (p1:Int) (a:Int) (c:Unit):LO Int Unit:=
 FR (idx p0 a) λb=>
 bif (p1==b) then
  some (.inl a)
 else
  some (.inr (.inr ()))
def cS (p0:VI) (p1:Int):Option Int:=
 FR (cntM (dL p0 p1) p0.length 0 ()) λa=>
 aft some (λb=>
  some ((-1):Int)) a
def ca (p0:VI) (p1:Int):Option Bool:=
 FR (cS p0 p1) λa=>
 some (decide (0<=a):Bool)
def jO (p0:Int) (p1:Int) (p2:Bool) (c:Bool):Option Int:=
 FR (bif p2 then
  some (1:Int)
 else
  some (0:Int)) λa=>
 FR (bif c then
  some (true,(1:Int))
 else
  some (false,(0:Int))) λb=>
 bif (p0==1) then
  some ((if p1<(FW .i64 (1-a)) then(FW .i64 (1-a)) else p1):Int)
 else
  bif (p0==2) then
   FR (bif (p1==2) then
   some true
   else
   FR (bif (p1==1) then
   some (!b.1)
   else
   some false) λd=>
   some d) λe=>
   bif e then
    some (2:Int)
   else
    some a
  else
   bif (p0==3) then
    bif b.1 then
     some (0:Int)
    else
     some ((if p1<a then a else p1):Int)
   else
    bif (p0==4) then
     some a
    else
     bif (p0==5) then
      some (FW .i64 (1-a))
     else
      bif (p0==6) then
       some ((if p1<a then a else p1):Int)
      else
       some (FW .i64 ((FW .i64 (2 * a))+b.2))
def gh (p1:Clause) (c:Int) (a:Int) (b:VI):LO Det VI:=
 FR (ca p1.A a) λd=>
 FR (ca p1.B a) λe=>
 FR (jO p1.Kind c d e) λf=>
 FR (appS 8 b ([f]:VI)) λg=>
 some (.inr (.inr g))
def gg (p0:Sig) (p1:Clause) (f:Int) (e:VV):LO Det VV:=
 FR (dY p0) λa=>
 FR (rng a) λ_=>
 FR (cntM (gh p1 f) (FV (a-0)) 0 ([]:VI)) λb=>
 aft (λc=>some (.inl c)) (λd=>
  FR (appS 24 e ([d]:VV)) λg=>
  some (.inr (.inr g))) b
def lQ (p0:Sig) (p1:Clause):Option (Det):=
 FR (bif (p1.Kind==1) then
  some true
 else
  some ((p1.Kind==5):Bool)) λf=>
 FR (bif f then
  some ((2:Int),(([1]:VI):VI),([]:VI))
 else
  FR (bif (p1.Kind==2) then
   some ((3:Int),(([2]:VI):VI),([]:VI))
  else
   FR (bif (p1.Kind==3) then
    some ((2:Int),(([1]:VI):VI),(([0]:VI):VI))
   else
    FR (bif (p1.Kind==4) then
     some ((2:Int),(([0,1]:VI):VI),(([1]:VI):VI))
    else
     FR (bif (p1.Kind==6) then
      some ((2:Int),(([0]:VI):VI),([]:VI))
     else
      some ((4:Int),(([2,3]:VI):VI),(([1,3]:VI):VI))) λe=>
     some (e.1,e.2.1,e.2.2)) λd=>
    some (d.1,d.2.1,d.2.2)) λc=>
   some (c.1,c.2.1,c.2.2)) λb=>
  some (b.1,b.2.1,b.2.2)) λa=>
 FR (rng a.1) λ_=>
 FR (cntM (gg p0 p1) (FV (a.1-0)) 0 ([]:VV)) λg=>
 aft some (λi=>
  some ((⟨i,([(⟨a.2.1,a.2.2⟩:Pair)]:VP)⟩:Det):Det)) g
def c7 (p0:(List (Int×Int))) (p1:(Int×Int)) (a:Int) (c:Unit):LO Int Unit:=
 FR (idx p0 a) λb=>
 bif ((p1.1==b.1)&&(p1.2==b.2)) then
  some (.inl a)
 else
  some (.inr (.inr ()))
def dh (p0:(List (Int×Int))) (p1:(Int×Int)):Option Int:=
 FR (cntM (c7 p0 p1) p0.length 0 ()) λa=>
 aft some (λb=>
  some ((-1):Int)) a
def gc (p1:Det) (g:(List (Int×Int))×Int×VV) (x47:VI) (c:Int) (a:(List (Int×Int))×VI):LO (Det×Bool) ((List (Int×Int))×VI):=
 FR (idx x47 c) λd=>
 FR (idx a.1 g.2.1) λi=>
 FR (idx p1.Next i.2) λj=>
 FR (idx j c) λe=>
 FR (dh a.1 (d,e)) λf=>
 FR (bif decide (f<0) then
  FR (appS 16 a.1 ([(d,e)]:List (Int×Int))) λk=>
  some (k,((a.1.length:Int):Int))
 else
  some (a.1,f)) λb=>
 FR (appS 8 a.2 ([b.2]:VI)) λl=>
 some (.inr (.inr (b.1,l)))
def iT (p0:Det) (p1:Det) (a:(List (Int×Int))×Int×VV):LO (Det×Bool) ((List (Int×Int))×Int×VV):=
 bif decide (a.2.1<(a.1.length:Int)) then
  FR (idx a.1 a.2.1) λf=>
  FR (idx p0.Next f.1) λc=>
  FR (cntM (gc p1 a c) c.length 0 (a.1,([]:VI))) λd=>
  aft (λe=>some (.inl e)) (λb=>
   bif decide (48<(b.1.length:Int)) then
    some (.inl (((⟨([]:VV),([]:VP)⟩:Det):Det),false))
   else
    FR (appS 24 a.2.2 ([b.2]:VV)) λg=>
    some (.inr (.inr (b.1,(FW .i64 (a.2.1+1)),g)))) d
 else
  some (.inr (.inl (a.1,a.2.1,a.2.2)))
def iU (i:(List (Int×Int))×Int×VV) (d:Int) (e:Pair) (c:Int) (a:VI×VI):LO (Det×Bool) (VI×VI):=
 FR (idx i.1 c) λb=>
 FR (idx ([b.1,b.2]:VI) d) λj=>
 FR (ca e.Ask j) λk=>
 FR (bif k then
  FR (appS 8 a.1 ([c]:VI)) λl=>
  some l
 else
  some a.1) λf=>
 FR (idx ([b.1,b.2]:VI) d) λm=>
 FR (ca e.Give m) λn=>
 FR (bif n then
  FR (appS 8 a.2 ([c]:VI)) λo=>
  some o
 else
  some a.2) λg=>
 some (.inr (.inr (f,g)))
def ec (b:(List (Int×Int))×Int×VV) (g:Int) (i:Det) (f:Int) (e:VP):LO (Det×Bool) VP:=
 FR (idx i.Pairs f) λj=>
 FR (cntM (iU b g j) b.1.length 0 (([]:VI),([]:VI))) λc=>
 aft (λd=>some (.inl d)) (λa=>
  FR (appS 48 e ([(⟨a.1,a.2⟩:Pair)]:VP)) λk=>
  some (.inr (.inr k))) c
def dt (p0:Det) (p1:Det) (f:(List (Int×Int))×Int×VV) (a:Int) (g:VP):LO (Det×Bool) VP:=
 FR (idx ([p0,p1]:List Det) a) λb=>
 FR (cntM (ec f a b) b.Pairs.length 0 g) λc=>
 aft (λd=>some (.inl d)) (λe=>
  some (.inr (.inr e))) c
def j5 (p0:Det) (p1:Det):Option (Det×Bool):=
 bif decide (4<(FW .i64 ((p0.Pairs.length:Int)+(p1.Pairs.length:Int)))) then
  some (((⟨([]:VV),([]:VP)⟩:Det):Det),false)
 else
  FR (ci (iT p0 p1) (2 ^ 64) ((([(0,0)]:List (Int×Int)):(List (Int×Int))),(0:Int),([]:VV))) λb=>
  aft some (λa=>
   FR (cntM (dt p0 p1 a) ([p0,p1]:List Det).length 0 ([]:VP)) λc=>
   aft some (λd=>
    some (((⟨a.2.2,d⟩:Det):Det),true)) c) b
def fQ (p0:Sig) (p1:VC) (c:Int) (b:VV×VP):LO (Det×Bool) (VV×VP):=
 FR (idx p1 c) λd=>
 FR (lQ p0 d) λe=>
 FR (j5 (⟨b.1,b.2⟩:Det) e) λa=>
 bif (!a.2) then
  some (.inl (((⟨([]:VV),([]:VP)⟩:Det):Det),false))
 else
  some (.inr (.inr (a.1.Next,a.1.Pairs)))
def db (p0:Sig) (p1:VC):Option (Det×Bool):=
 FR (jN p0) λd=>
 FR (bif (!d) then
 some true
 else
 FR (ko p0 p1) λe=>
 some (!e)) λb=>
 bif b then
  some (((⟨([]:VV),([]:VP)⟩:Det):Det),false)
 else
  FR (dY p0) λf=>
  FR (mkS 8 f (0:Int)) λg=>
  FR (cntM (fQ p0 p1) p1.length 0 ((([g]:VV):VV),([]:VP))) λc=>
  aft some (λa=>
   some (((⟨a.1,a.2⟩:Det):Det),true)) c
def jL (p0:VP) (p1:Int) (c:Int) (f:Unit):LO Bool Unit:=
 FR (idx p0 c) λa=>
 FR (lN a.Ask p1) λd=>
 FR (bif (!d) then
 some true
 else
 FR (lN a.Give p1) λe=>
 some (!e)) λb=>
 bif b then
  some (.inl false)
 else
  some (.inr (.inr ()))
def kT (p0:VP) (p1:Int):Option Bool:=
 FR (cntM (jL p0 p1) p0.length 0 ()) λa=>
 aft some (λb=>
  some (decide ((p0.length:Int)<=4):Bool)) a
def fS (p0:Int) (c0:Int):Option Bool:=
 FR (bif decide (p0<0) then
 some true
 else
 some (decide (c0<=p0))) λa=>
 some a
def cE (p0:VI) (c1_0:Int) (a:Int) (d:Unit):LO Int Unit:=
 FR (idx p0 a) λb=>
 FR (fS b c1_0) λc=>
 bif c then
  some (.inl a)
 else
  some (.inr (.inr ()))
def cJ (p0:VI) (c1_0:Int):Option Int:=
 FR (cntM (cE p0 c1_0) p0.length 0 ()) λa=>
 aft some (λb=>
  some ((-1):Int)) a
def cD (p0:VI) (c1_0:Int):Option Bool:=
 FR (cJ p0 c1_0) λa=>
 some (decide (0<=a):Bool)
def gK (p0:VI) (p1:Int):Option Bool:=
 FR (cD p0 p1) λa=>
 some (!a)
def m9 (p0:Sig) (p1:Det) (c:Int) (f:Unit):LO Bool Unit:=
 FR (idx p1.Next c) λa=>
 FR (dY p0) λd=>
 FR (bif ((a.length:Int) !=d) then
 some true
 else
 FR (gK a (p1.Next.length:Int)) λe=>
 some (!e)) λb=>
 bif b then
  some (.inl false)
 else
  some (.inr (.inr ()))
def qx (p0:Sig) (p1:Det):Option Bool:=
 FR (bif decide ((p1.Next.length:Int)<1) then
 some true
 else
 some (decide (48<(p1.Next.length:Int)))) λa=>
 FR (bif a then
 some true
 else
 FR (kT p1.Pairs (p1.Next.length:Int)) λd=>
 some (!d)) λb=>
 bif b then
  some false
 else
  FR (cntM (m9 p0 p1) p1.Next.length 0 ()) λc=>
  aft some (λe=>
   some true) c
def dz (p0:Sig):Option Int:=
 FR (nn p0.In) λ_z5=>
 some (FW .i64 (1 * 2 ^ (min (FV p0.In) (F3 F4))))
def cr (p0:VI):Option VI:=
 if 0<p0.length/\p0.length<4611686018427387904 then some (p0.mergeSort λa b=>decide (a<=b)) else if p0.length=0 then some p0 else none
def dv (p0:VI):Option VI:=
 if 0<p0.length/\p0.length<4611686018427387904 then some (Go.Lib.compact p0) else none
def pV (p0:Pair):Option (Pair):=
 FR (appS 8 ([]:VI) p0.Ask) λb=>
 FR (appS 8 ([]:VI) p0.Give) λa=>
 some ((⟨b,a⟩:Pair):Pair)
def fV (p1:Det) (d:Int) (b:Int) (c:Int) (a:VI):LO (Arena×VP) VI:=
 FR (appS 8 a ([(FW .i64 ((FW .i64 ((p1.Next.length:Int)+(FW .i64 (b * d))))+c))]:VI)) λe=>
 some (.inr (.inr e))
def fU (p1:Det) (a:Int) (f:Int) (b:VI×VV):LO (Arena×VP) (VI×VV):=
 FR (rng a) λ_=>
 FR (cntM (fV p1 a f) (FV (a-0)) 0 ([]:VI)) λc=>
 aft (λd=>some (.inl d)) (λe=>
  FR (appS 8 b.1 ([1]:VI)) λg=>
  FR (appS 24 b.2 ([e]:VV)) λi=>
  some (.inr (.inr (g,i)))) c
def fY (p1:Det) (e:Int) (b:Int) (c:Int) (d:Int) (a:VI):LO (Arena×VP) VI:=
 FR (idx p1.Next b) λf=>
 FR (idx f (FW .i64 ((FW .i64 (d * e))+c))) λg=>
 FR (appS 8 a ([g]:VI)) λi=>
 some (.inr (.inr i))
def fX (p0:Sig) (p1:Det) (i:Int) (e:Int) (f:Int) (a:VI×VV):LO (Arena×VP) (VI×VV):=
 FR (nn p0.Out) λ_z68=>
 FR (rng (FW .i64 (1 * 2 ^ (min (FV p0.Out) (F3 F4))))) λ_=>
 FR (cntM (fY p1 i e f) (FV ((FW .i64 (1 * 2 ^ (min (FV p0.Out) (F3 F4))))-0)) 0 ([]:VI)) λb=>
 aft (λc=>some (.inl c)) (λd=>
  FR (cr d) λj=>
  FR (appS 8 a.1 ([0]:VI)) λk=>
  FR (dv j) λl=>
  FR (appS 24 a.2 ([l]:VV)) λg=>
  some (.inr (.inr (k,g)))) b
def fW (p0:Sig) (p1:Det) (a:Int) (f:Int) (c:VI×VV):LO (Arena×VP) (VI×VV):=
 FR (rng a) λ_=>
 FR (cntM (fX p0 p1 a f) (FV (a-0)) 0 (c.1,c.2)) λd=>
 aft (λe=>some (.inl e)) (λb=>
  some (.inr (.inr (b.1,b.2)))) d
def fp (p1:Det) (b:Int) (a:VP):LO (Arena×VP) VP:=
 FR (idx p1.Pairs b) λc=>
 FR (pV c) λd=>
 FR (appS 48 a ([d]:VP)) λe=>
 some (.inr (.inr e))
def eZ (p0:Sig) (p1:Det):Option (Arena×VP):=
 FR (dz p0) λc=>
 FR (cntM (fU p1 c) p1.Next.length 0 (([]:VI),([]:VV))) λe=>
 aft some (λa=>
  FR (cntM (fW p0 p1 c) p1.Next.length 0 (a.1,a.2)) λf=>
  aft some (λb=>
   FR (cntM (fp p1) p1.Pairs.length 0 ([]:VP)) λd=>
   aft some (λg=>
    some (((⟨b.1,b.2⟩:Arena):Arena),g)) d) f) e
def km (p0:Arena) (a:Int) (k:Unit):LO Bool Unit:=
 FR (idx p0.Next a) λb=>
 FR (idx p0.Owner a) λg=>
 FR (bif decide (g<0) then
 some true
 else
 FR (idx p0.Owner a) λi=>
 some (decide (1<i))) λc=>
 FR (bif c then
 some true
 else
 some (decide ((b.length:Int)<1))) λd=>
 FR (bif d then
 some true
 else
 some (decide (16<(b.length:Int)))) λe=>
 FR (bif e then
 some true
 else
 FR (lN b (p0.Owner.length:Int)) λj=>
 some (!j)) λf=>
 bif f then
  some (.inl false)
 else
  some (.inr (.inr ()))
def mF (p0:Arena):Option Bool:=
 FR (bif decide ((p0.Owner.length:Int)<1) then
 some true
 else
 some (decide (256<(p0.Owner.length:Int)))) λa=>
 FR (bif a then
 some true
 else
 some ((p0.Next.length:Int) !=(p0.Owner.length:Int))) λb=>
 bif b then
  some false
 else
  FR (cntM (km p0) p0.Next.length 0 ()) λc=>
  aft some (λd=>
   some true) c
def oy (p0:Arena):Option Int:=
 some ((p0.Owner.length:Int):Int)
def lM (p0:Arena) (p1:Int):Option Bool:=
 FR (bif decide (0<=p1) then
 FR (oy p0) λb=>
 some (decide (p1<b))
 else
 some false) λa=>
 some a
def ij (p0:VP) (p1:VI) (p2:Int) (d:Int) (a:VI×VI):LO VI (VI×VI):=
 FR (idx p1 d) λb=>
 FR (idx p0 b) λe=>
 FR (ca e.Give p2) λf=>
 FR (bif f then
  FR (appS 8 a.1 ([b]:VI)) λg=>
  some (g,a.2)
 else
  FR (appS 8 a.2 ([b]:VI)) λi=>
  some (a.1,i)) λc=>
 some (.inr (.inr (c.1,c.2)))
def kr (p0:VP) (p1:VI) (p2:Int):Option VI:=
 FR (cntM (ij p0 p1 p2) p1.length 0 (([]:VI),([]:VI))) λb=>
 aft some (λa=>
  FR (appS 8 a.1 a.2) λc=>
  some c) b
def kz (p0:Place) (c0:VP):Option VI:=
 FR (kr c0 p0.Record p0.At) λa=>
 some a
def dK (p0:VI) (p1:VI) (a:Int) (d:Unit):LO Bool Unit:=
 FR (idx p0 a) λb=>
 FR (idx p1 a) λc=>
 bif (b !=c) then
  some (.inl false)
 else
  some (.inr (.inr ()))
def dm (p0:VI) (p1:VI):Option Bool:=
 bif ((p0.length:Int) !=(p1.length:Int)) then
  some false
 else
  FR (cntM (dK p0 p1) p0.length 0 ()) λa=>
  aft some (λb=>
   some true) a
def lS (p0:Place) (c0:Int) (a:VI):Option Bool:=
 FR (bif (p0.At==c0) then
 FR (dm p0.Record a) λc=>
 some c
 else
 some false) λb=>
 some b
def cz (p0:VL) (c1_0:Int) (b:VI) (a:Int) (e:Unit):LO Int Unit:=
 FR (idx p0 a) λc=>
 FR (lS c c1_0 b) λd=>
 bif d then
  some (.inl a)
 else
  some (.inr (.inr ()))
def cC (p0:VL) (c1_0:Int) (a:VI):Option Int:=
 FR (cntM (cz p0 c1_0 a) p0.length 0 ()) λb=>
 aft some (λc=>
  some ((-1):Int)) b
def pd (p0:VL) (p1:Int) (p2:VI):Option Int:=
 FR (cC p0 p1 p2) λa=>
 some a
def ik (p0:VP) (p1:VI) (p2:Int) (a:Int) (b:Int×Int):LO Int (Int×Int):=
 FR (idx p1 a) λc=>
 FR (idx p0 c) λf=>
 FR (ca f.Ask p2) λg=>
 FR (bif g then
  some a
 else
  some b.1) λd=>
 FR (idx p0 c) λi=>
 FR (ca i.Give p2) λj=>
 FR (bif j then
  some a
 else
  some b.2) λe=>
 some (.inr (.inr (d,e)))
def kx (p0:VP) (p1:VI) (p2:Int):Option Int:=
 FR (cntM (ik p0 p1 p2) p1.length 0 (((-1):Int),((-1):Int))) λc=>
 aft some (λa=>
  FR (bif decide (a.1<0) then
  some (decide (a.2<0))
  else
  some false) λb=>
  bif b then
   some (0:Int)
  else
   bif decide (a.2<a.1) then
    some (FW .i64 ((FW .i64 (2 * a.1))+1))
   else
    some (FW .i64 ((FW .i64 (2 * a.2))+2))) c
def kA (p0:Place) (c0:VP):Option Int:=
 FR (kx c0 p0.Record p0.At) λa=>
 some a
def ni (p0:Parity) (p1:Int) (p2:Int) (a:VI):Option (Parity):=
 FR (appS 8 p0.Arena.Owner ([p1]:VI)) λb=>
 FR (appS 24 p0.Arena.Next ([a]:VV)) λc=>
 FR (appS 8 p0.Prio ([p2]:VI)) λd=>
 some ((⟨(⟨b,c⟩:Arena),d⟩:Parity):Parity)
def cu (c:VI) (g:VI) (f:Int) (a:VL×VI):LO (Parity×VL×Bool) (VL×VI):=
 FR (idx g f) λd=>
 FR (pd a.1 d c) λe=>
 FR (bif decide (e<0) then
  FR (appS 8 ([]:VI) c) λi=>
  FR (appS 32 a.1 ([(⟨d,i⟩:Place)]:VL)) λj=>
  some (j,((a.1.length:Int):Int))
 else
  some (a.1,e)) λb=>
 FR (appS 8 a.2 ([b.2]:VI)) λk=>
 some (.inr (.inr (b.1,k)))
def cj (p0:Arena) (e:VP) (a:VL×Int×VI×VV×VI):LO (Parity×VL×Bool) (VL×Int×VI×VV×VI):=
 bif decide (a.2.1<(a.1.length:Int)) then
  FR (idx a.1 a.2.1) λb=>
  FR (kz b e) λj=>
  FR (idx p0.Next b.At) λf=>
  FR (cntM (cu j f) f.length 0 (a.1,([]:VI))) λg=>
  aft (λi=>some (.inl i)) (λc=>
   bif decide (256<(c.1.length:Int)) then
    some (.inl (((⟨(⟨([]:VI),([]:VV)⟩:Arena),([]:VI)⟩:Parity):Parity),([]:VL),false))
   else
    FR (cr c.2) λk=>
    FR (idx p0.Owner b.At) λl=>
    FR (kA b e) λm=>
    FR (ni (⟨(⟨a.2.2.1,a.2.2.2.1⟩:Arena),a.2.2.2.2⟩:Parity) l m k) λd=>
    some (.inr (.inr (c.1,(FW .i64 (a.2.1+1)),d.Arena.Owner,d.Arena.Next,d.Prio)))) g
 else
  some (.inr (.inl (a.1,a.2.1,a.2.2.1,a.2.2.2.1,a.2.2.2.2)))
def cW (p0:Arena) (p1:Place) (b:VP):Option (Parity×VL×Bool):=
 FR (ci (cj p0 b) (2 ^ 64) ((([p1]:VL):VL),(0:Int),([]:VI),([]:VV),([]:VI))) λc=>
 aft some (λa=>
  some (((⟨(⟨a.2.2.1,a.2.2.2.1⟩:Arena),a.2.2.2.2⟩:Parity):Parity),a.1,true)) c
def ms  (b:Int) (a:VI):LO (Parity×VL×Bool) VI:=
 FR (appS 8 a ([b]:VI)) λc=>
 some (.inr (.inr c))
def ed (p0:Arena) (p1:VP) (p2:Int):Option (Parity×VL×Bool):=
 FR (cntM ms p1.length 0 ([]:VI)) λb=>
 aft some (λc=>
  FR (cW p0 (⟨p2,c⟩:Place) p1) λa=>
  some (a.1,a.2.1,a.2.2)) b
def mW  (b:Int) (a:VI):LO VI VI:=
 FR (appS 8 a ([b]:VI)) λc=>
 some (.inr (.inr c))
def wb (p0:Int):Option VI:=
 FR (bif decide (p0<0) then
 some true
 else
 some (decide (256<p0))) λa=>
 bif a then
  some ([]:VI)
 else
  FR (rng p0) λ_=>
  FR (cntM mW (FV (p0-0)) 0 ([]:VI)) λb=>
  aft some (λc=>
   some c) b
def sX (p0:Arena):Option VI:=
 FR (oy p0) λa=>
 FR (wb a) λb=>
 some b
def kv (c:Int) (e:VI) (d:Int) (a:VV):LO VV VV:=
 FR (idx e d) λb=>
 FR (idx a b) λf=>
 FR (appS 8 f ([c]:VI)) λg=>
 FR (idx a b) λj=>
 FR (setI a b g) λi=>
 some (.inr (.inr i))
def ku (p0:Arena) (a:Int) (e:VV):LO VV VV:=
 FR (idx p0.Next a) λb=>
 FR (cntM (kv a b) b.length 0 e) λc=>
 aft (λd=>some (.inl d)) (λf=>
  some (.inr (.inr f))) c
def pe (p0:Arena):Option VV:=
 FR (mkS 24 (p0.Owner.length:Int) ([]:VI)) λc=>
 FR (cntM (ku p0) p0.Next.length 0 c) λa=>
 aft some (λb=>
  some b) a
def lP (p1:VI) (c:Int) (a:VB):LO VB VB:=
 FR (idx p1 c) λb=>
 FR (idx a b) λe=>
 FR (setI a b true) λd=>
 some (.inr (.inr d))
def qy (p0:Arena) (p1:VI):Option VB:=
 FR (mkS 1 (p0.Owner.length:Int) false) λc=>
 FR (cntM (lP p1) p1.length 0 c) λa=>
 aft some (λb=>
  some b) a
def lO (p0:VB) (b:Int) (a:VI):LO VI VI:=
 FR (idx p0 b) λd=>
 FR (bif d then
  FR (appS 8 a ([b]:VI)) λe=>
  some e
 else
  some a) λc=>
 some (.inr (.inr c))
def iV (p0:VB):Option VI:=
 FR (cntM (lO p0) p0.length 0 ([]:VI)) λa=>
 aft some (λb=>
  some b) a
def ng (p0:Parity) (p1:VI) (c:Int) (a:Int):LO Int Int:=
 FR (idx p1 c) λd=>
 FR (idx p0.Prio d) λb=>
 some (.inr (.inr ((if a<b then b else a):Int)))
def sY (p0:Parity) (p1:VI):Option Int:=
 FR (cntM (ng p0 p1) p1.length 0 ((-1):Int)) λa=>
 aft some (λb=>
  some b) a
def dA (p2:VB) (b:Int) (e:VI) (d:Int) (a:VI):LO VB VI:=
 FR (idx e d) λf=>
 FR (idx p2 f) λg=>
 FR (bif g then
  FR (idx a b) λi=>
  FR (idx a b) λk=>
  FR (setI a b (FW .i64 (i+1))) λj=>
  some j
 else
  some a) λc=>
 some (.inr (.inr c))
def eJ (p0:solver) (p1:Int) (p2:VB) (o:VI) (l:Int) (a:VI×VB×VI):LO VB (VI×VB×VI):=
 FR (idx o l) λb=>
 FR (idx a.2.1 b) λp=>
 FR (bif p then
 some true
 else
 FR (idx p2 b) λq=>
 some (!q)) λi=>
 bif i then
  some (.inr (.inr (a.1,a.2.1,a.2.2)))
 else
  FR (idx p0.game.Arena.Owner b) λr=>
  bif (r !=p1) then
   FR (idx a.2.2 b) λs=>
   FR (bif (s==0) then
    FR (idx p0.game.Arena.Next b) λg=>
    FR (cntM (dA p2 b g) g.length 0 a.2.2) λj=>
    aft (λu=>none) (λk=>
     some k) j
   else
    some a.2.2) λc=>
   FR (idx c b) λt=>
   FR (idx c b) λv=>
   FR (setI c b (FW .i64 (t-1))) λe=>
   FR (idx e b) λm=>
   bif decide (0<m) then
    some (.inr (.inr (a.1,a.2.1,e)))
   else
    FR (idx a.2.1 b) λn=>
    FR (setI a.2.1 b true) λf=>
    FR (appS 8 a.1 ([b]:VI)) λd=>
    some (.inr (.inr (d,f,e)))
  else
   FR (idx a.2.1 b) λn=>
   FR (setI a.2.1 b true) λf=>
   FR (appS 8 a.1 ([b]:VI)) λd=>
   some (.inr (.inr (d,f,a.2.2)))
def gO (p0:solver) (p1:Int) (p2:VB) (a:VI×VB×VI):LO VB (VI×VB×VI):=
 bif decide (0<(a.1.length:Int)) then
  FR (idx a.1 0) λf=>
  FR (subS a.1 1 (a.1.length:Int)) λg=>
  FR (idx p0.preds f) λc=>
  FR (cntM (eJ p0 p1 p2 c) c.length 0 (g,a.2.1,a.2.2)) λd=>
  aft (λe=>some (.inl e)) (λb=>
   some (.inr (.inr (b.1,b.2.1,b.2.2)))) d
 else
  some (.inr (.inl (a.1,a.2.1,a.2.2)))
def ic (p0:solver) (p1:Int) (p2:VB) (a:VB):Option VB:=
 FR (appS 1 ([]:VB) a) λd=>
 FR (mkS 8 (p2.length:Int) (0:Int)) λe=>
 FR (iV a) λf=>
 FR (ci (gO p0 p1 p2) (2 ^ 64) (f,d,e)) λb=>
 aft some (λc=>
  some c.2.1) b
def kE (p0:VB) (p1:VB) (a:Int) (b:VB):LO VB VB:=
 FR (idx p0 a) λd=>
 FR (bif d then
 FR (idx p1 a) λe=>
 some (!e)
 else
 some false) λc=>
 FR (idx b a) λg=>
 FR (setI b a c) λf=>
 some (.inr (.inr f))
def gP (p0:VB) (p1:VB):Option VB:=
 FR (mkS 1 (p0.length:Int) false) λc=>
 FR (cntM (kE p0 p1) p0.length 0 c) λa=>
 aft some (λb=>
  some b) a
def dy (p0:VB) (p1:Bool) (a:Int) (c:Unit):LO Int Unit:=
 FR (idx p0 a) λb=>
 bif (p1==b) then
  some (.inl a)
 else
  some (.inr (.inr ()))
def fk (p0:VB) (p1:Bool):Option Int:=
 FR (cntM (dy p0 p1) p0.length 0 ()) λa=>
 aft some (λb=>
  some ((-1):Int)) a
def da (p0:VB) (p1:Bool):Option Bool:=
 FR (fk p0 p1) λa=>
 some (decide (0<=a):Bool)
def ft (p0:solver) (e:Int) (d:VB) (a:Int) (b:VB):LO (VB×Int) VB:=
 FR (idx d a) λf=>
 FR (bif f then
 FR (idx p0.game.Prio a) λg=>
 some (g==e)
 else
 some false) λc=>
 FR (idx b a) λj=>
 FR (setI b a c) λi=>
 some (.inr (.inr i))
def fq (rc:solver->VB->Option (VB×Int)) (p0:solver) (p1:VB) (b:Int) (a:VB):LO (VB×Int) VB:=
 FR (mkS 1 (p1.length:Int) false) λf=>
 FR (cntM (ft p0 b a) f.length 0 f) λi=>
 aft (λj=>some (.inl j)) (λk=>
  FR (ic p0 (F2 b 2) a k) λl=>
  FR (gP a l) λg=>
  FR (rc p0 g) λc=>
  FR (bif (c.2==(F2 b 2)) then
   FR (gP g c.1) λm=>
   some m
  else
   some c.1) λe=>
  FR (da e true) λn=>
  bif (!n) then
   some (.inl (a,((F2 b 2):Int)))
  else
   FR (ic p0 (FW .i64 (1-(F2 b 2))) a e) λo=>
   FR (gP a o) λd=>
   FR (da d true) λp=>
   bif (!p) then
    some (.inl (d,((F2 b 2):Int)))
   else
    some (.inr (.inr d))) i
def ee (rc:solver->VB->Option (VB×Int)) (p0:solver) (p1:VB):Option (VB×Int):=
 FR (iV p1) λa=>
 bif ((a.length:Int)==0) then
  some (p1,(0:Int))
 else
  FR (sY p0.game a) λc=>
  FR (appS 1 ([]:VB) p1) λd=>
  FR (ci (fq rc p0 p1 c) (2 ^ 64) d) λb=>
  aft some (λe=>
   none) b
def dU:Nat->solver->VB->Option (VB×Int)
 |0=>λ_ _=>none
 |n+1=>ee (dU n)
def qC (p0:Parity) (p1:VI):Option (VI×VI):=
 FR (pe p0.Arena) λc=>
 FR (qy p0.Arena p1) λb=>
 FR (dU (2 ^ 64) (⟨p0,c⟩:solver) b) λa=>
 bif (a.2==0) then
  FR (iV a.1) λd=>
  FR (gP b a.1) λe=>
  FR (iV e) λf=>
  some (d,f)
 else
  FR (gP b a.1) λg=>
  FR (iV g) λi=>
  FR (iV a.1) λj=>
  some (i,j)
def kC (d:VI×VI) (c:Int) (a:VI):LO VI VI:=
 FR (idx d.2 c) λb=>
 FR (idx a b) λf=>
 FR (setI a b 1) λe=>
 some (.inr (.inr e))
def eK (p0:Parity):Option VI:=
 FR (mkS 8 (p0.Prio.length:Int) (0:Int)) λd=>
 FR (sX p0.Arena) λe=>
 FR (qC p0 e) λa=>
 FR (cntM (kC a) a.2.length 0 d) λb=>
 aft some (λc=>
  some c) b
def ml (p0:Arena) (p1:VP) (p2:Int):Option Int:=
 FR (mF p0) λd=>
 FR (bif (!d) then
 some true
 else
 FR (oy p0) λe=>
 FR (kT p1 e) λf=>
 some (!f)) λb=>
 FR (bif b then
 some true
 else
 FR (lM p0 p2) λg=>
 some (!g)) λc=>
 bif c then
  some ((-1):Int)
 else
  FR (ed p0 p1 p2) λa=>
  bif (!a.2.2) then
   some ((-1):Int)
  else
   FR (eK a.1) λi=>
   FR (idx i 0) λj=>
   some j
def mX (p0:Sig) (p1:Det):Option Int:=
 FR (jN p0) λe=>
 FR (bif (!e) then
 some true
 else
 FR (qx p0 p1) λc=>
 some (!c)) λb=>
 bif b then
  some ((-1):Int)
 else
  FR (eZ p0 p1) λa=>
  FR (ml a.1 a.2 0) λd=>
  some d
def hU (p0:Sig) (p1:VC):Option Bool:=
 FR (db p0 p1) λa=>
 FR (bif a.2 then
 FR (mX p0 a.1) λc=>
 some (c==0)
 else
 some false) λb=>
 some b
def jI (p0:Parity) (c:Int) (d:Unit):LO Bool Unit:=
 FR (idx p0.Prio c) λa=>
 FR (bif decide (a<0) then
 some true
 else
 some (decide (40<a))) λb=>
 bif b then
  some (.inl false)
 else
  some (.inr (.inr ()))
def kS (p0:Parity):Option Bool:=
 FR (mF p0.Arena) λc=>
 FR (bif (!c) then
 some true
 else
 some ((p0.Prio.length:Int) !=(p0.Arena.Owner.length:Int))) λa=>
 bif a then
  some false
 else
  FR (cntM (jI p0) p0.Prio.length 0 ()) λb=>
  aft some (λd=>
   some true) b
def ox  (b:Int) (a:VI):LO VI VI:=
 FR (idx a b) λd=>
 FR (setI a b (-1)) λc=>
 some (.inr (.inr c))
def qz (p0:Arena):Option VI:=
 FR (mkS 8 (p0.Owner.length:Int) (0:Int)) λa=>
 FR (cntM ox a.length 0 a) λb=>
 aft some (λc=>
  some c) b
def jJ (p0:Answer) (p1:Int) (b:Int) (a:VI):LO VI VI:=
 FR (idx p0.Won b) λd=>
 FR (bif (d==p1) then
  FR (appS 8 a ([b]:VI)) λe=>
  some e
 else
  some a) λc=>
 some (.inr (.inr c))
def mZ (p0:Answer) (p1:Int):Option VI:=
 bif decide (256<(p0.Won.length:Int)) then
  some ([]:VI)
 else
  FR (cntM (jJ p0 p1) p0.Won.length 0 ([]:VI)) λa=>
  aft some (λb=>
   some b) a
def iP (p0:VV) (b:Int) (a:VV):LO VV VV:=
 FR (idx p0 b) λc=>
 FR (appS 8 ([]:VI) c) λd=>
 FR (appS 24 a ([d]:VV)) λe=>
 some (.inr (.inr e))
def oo (p0:VV):Option VV:=
 FR (cntM (iP p0) p0.length 0 ([]:VV)) λa=>
 aft some (λb=>
  some b) a
def lJ (p0:Arena):Option (Arena):=
 FR (appS 8 ([]:VI) p0.Owner) λa=>
 FR (oo p0.Next) λb=>
 some ((⟨a,b⟩:Arena):Arena)
def kp (p1:VI) (b:Int) (a:VV):LO Arena VV:=
 FR (idx p1 b) λc=>
 FR (bif decide (0<=c) then
  FR (idx a b) λf=>
  FR (setI a b (([c]:VI):VI)) λe=>
  some e
 else
  some a) λd=>
 some (.inr (.inr d))
def pa (p0:Arena) (p1:VI):Option (Arena):=
 FR (lJ p0) λa=>
 FR (cntM (kp p1) p1.length 0 (a.Next:VV)) λb=>
 aft some (λc=>
  some ((⟨a.Owner,c⟩:Arena):Arena)) b
def qA (p0:Parity) (p1:VI):Option (Parity):=
 FR (pa p0.Arena p1) λa=>
 FR (appS 8 ([]:VI) p0.Prio) λb=>
 some ((⟨(⟨a.Owner,a.Next⟩:Arena),b⟩:Parity):Parity)
def ib (p0:Parity) (p2:VI) (a:Int) (k:VI) (l:VI) (j:Int) (c:VI):LO Answer VI:=
 FR (idx l j) λd=>
 FR (idx p2 d) λm=>
 FR (idx p2 a) λn=>
 bif (m !=n) then
  some (.inr (.inr c))
 else
  FR (idx c a) λt=>
  FR (setI c a d) λb=>
  FR (qA p0 b) λo=>
  FR (qC o k) λe=>
  FR (idx p2 a) λp=>
  FR (bif (p==0) then
  some ((e.2.length:Int)==0)
  else
  some false) λg=>
  FR (bif g then
  some true
  else
  FR (idx p2 a) λq=>
  FR (bif (q==1) then
  some ((e.1.length:Int)==0)
  else
  some false) λi=>
  some i) λf=>
  bif f then
   some (.inr (.inl b))
  else
   FR (idx b a) λs=>
   FR (setI b a (-1)) λr=>
   some (.inr (.inr r))
def jQ (p0:Parity) (p2:VI) (a:Int) (b:VI):LO Answer VI:=
 FR (idx p2 a) λj=>
 FR (idx p0.Arena.Owner a) λi=>
 FR (bif (i !=j) then
 some true
 else
 FR (idx b a) λk=>
 some (decide (0<=k))) λd=>
 bif d then
  some (.inr (.inr b))
 else
  FR (idx p2 a) λl=>
  FR (mZ (⟨p2,([]:VI)⟩:Answer) l) λm=>
  FR (idx p0.Arena.Next a) λc=>
  FR (cntM (ib p0 p2 a m c) c.length 0 b) λe=>
  aft (λf=>some (.inl f)) (λg=>
   some (.inr (.inr g))) e
def nc (p0:Parity) (p1:VI) (p2:VI):Option (Answer):=
 FR (appS 8 ([]:VI) p1) λa=>
 FR (cntM (jQ p0 p2) a.length 0 a) λb=>
 aft some (λc=>
  FR (appS 8 ([]:VI) p2) λd=>
  some ((⟨d,c⟩:Answer):Answer)) b
def mH (p0:Parity):Option (Answer):=
 FR (kS p0) λd=>
 bif (!d) then
  some ((⟨([]:VI),([]:VI)⟩:Answer):Answer)
 else
  FR (qz p0.Arena) λa=>
  FR (eK p0) λb=>
  FR (nc p0 a b) λc=>
  some c
def jM (p0:Int) (c0:VL) (a:Int):Option Bool:=
 FR (idx c0 p0) λb=>
 some ((b.At==a):Bool)
def cH (p0:VI) (c1_0:VL) (b:Int) (a:Int) (e:Unit):LO Int Unit:=
 FR (idx p0 a) λc=>
 FR (jM c c1_0 b) λd=>
 bif d then
  some (.inl a)
 else
  some (.inr (.inr ()))
def cB (p0:VI) (c1_0:VL) (a:Int):Option Int:=
 FR (cntM (cH p0 c1_0 a) p0.length 0 ()) λb=>
 aft some (λc=>
  some ((-1):Int)) b
def ga (p0:Sig) (p1:Det) (p2:Parity) (f:VL) (x42:Place) (d:Int) (k:Place) (l:Int) (g:Int) (a:VI×VI):LO Rival (VI×VI):=
 FR (idx p1.Next x42.At) λm=>
 FR (dz p0) λn=>
 FR (idx m (FW .i64 ((FW .i64 (g * n))+(F2 (FW .i64 (k.At-(p1.Next.length:Int))) l)))) λo=>
 FR (idx p2.Arena.Next d) λp=>
 FR (cB p f o) λq=>
 FR (idx p2.Arena.Next d) λr=>
 FR (idx r q) λe=>
 FR (cS a.1 e) λc=>
 FR (bif decide (c<0) then
  FR (appS 8 a.1 ([e]:VI)) λi=>
  some (i,((a.1.length:Int):Int))
 else
  some (a.1,c)) λb=>
 FR (appS 8 a.2 ([b.2]:VI)) λj=>
 some (.inr (.inr (b.1,j)))
def fZ (p0:Sig) (p1:Det) (p2:Parity) (b:VL) (l:Answer) (a:VI×Int×VI×VV):LO Rival (VI×Int×VI×VV):=
 bif decide (a.2.1<(a.1.length:Int)) then
  FR (idx a.1 a.2.1) λm=>
  FR (idx b m) λn=>
  FR (idx a.1 a.2.1) λo=>
  FR (idx l.Plan o) λe=>
  FR (idx b e) λf=>
  FR (dz p0) λc=>
  FR (nz c) λ_z61=>
  FR (nn p0.Out) λ_z65=>
  FR (rng (FW .i64 (1 * 2 ^ (min (FV p0.Out) (F3 F4))))) λ_=>
  FR (cntM (ga p0 p1 p2 b n e f c) (FV ((FW .i64 (1 * 2 ^ (min (FV p0.Out) (F3 F4))))-0)) 0 (a.1,([]:VI))) λg=>
  aft (λi=>some (.inl i)) (λd=>
   FR (appS 8 a.2.2.1 ([(F2 (FW .i64 (f.At-(p1.Next.length:Int))) c)]:VI)) λj=>
   FR (appS 24 a.2.2.2 ([d.2]:VV)) λk=>
   some (.inr (.inr (d.1,(FW .i64 (a.2.1+1)),j,k)))) g
 else
  some (.inr (.inl (a.1,a.2.1,a.2.2.1,a.2.2.2)))
def lK (p0:Sig) (p1:Det) (p2:Parity) (b:VL):Option (Rival):=
 FR (mH p2) λd=>
 FR (ci (fZ p0 p1 p2 b d) (2 ^ 64) ((([0]:VI):VI),(0:Int),([]:VI),([]:VV))) λc=>
 aft some (λa=>
  some ((⟨a.2.2.1,a.2.2.2⟩:Rival):Rival)) c
def dF (p0:Sig) (p1:VC):Option (Rival×Bool):=
 FR (db p0 p1) λb=>
 bif (!b.2) then
  some (((⟨([]:VI),([]:VV)⟩:Rival):Rival),false)
 else
  FR (eZ p0 b.1) λc=>
  FR (ed c.1 c.2 0) λa=>
  FR (bif (!a.2.2) then
  some true
  else
  FR (eK a.1) λe=>
  FR (idx e 0) λf=>
  some (f !=1)) λd=>
  bif d then
   some (((⟨([]:VI),([]:VV)⟩:Rival):Rival),false)
  else
   FR (lK p0 b.1 a.1 a.2.1) λg=>
   some (g,true)
def fO (p0:Sig) (p1:VC):Option Int:=
 FR (hU p0 p1) λb=>
 bif b then
  some (0:Int)
 else
  FR (dF p0 p1) λa=>
  bif a.2 then
   some (1:Int)
  else
   some ((-1):Int)
def mY (p0:Sig) (p1:Det):Option (Det):=
 none
def jH (p0:Int) (c0:VL) (a:Int) (b:Int) (c3:Sig) (c:Int):Option Bool:=
 FR (idx c0 p0) λd=>
 FR (dz c3) λe=>
 some ((d.At==(FW .i64 ((FW .i64 (a+(FW .i64 (b * e))))+c))):Bool)
def cG (p0:VI) (c1_0:VL) (b:Int) (c:Int) (c1_3:Sig) (d:Int) (a:Int) (g:Unit):LO Int Unit:=
 FR (idx p0 a) λe=>
 FR (jH e c1_0 b c c1_3 d) λf=>
 bif f then
  some (.inl a)
 else
  some (.inr (.inr ()))
def cA (p0:VI) (c1_0:VL) (a:Int) (b:Int) (c1_3:Sig) (c:Int):Option Int:=
 FR (cntM (cG p0 c1_0 a b c1_3 c) p0.length 0 ()) λd=>
 aft some (λe=>
  some ((-1):Int)) d
def iM (p0:Sig) (p1:Det) (p2:Int) (c:Int) (d:Int) (b:Int) (a:VI):LO VI VI:=
 FR (idx p1.Next p2) λf=>
 FR (dz p0) λg=>
 FR (idx f (FW .i64 ((FW .i64 (b * g))+c))) λi=>
 FR (bif (i==d) then
  FR (appS 8 a ([b]:VI)) λj=>
  some j
 else
  some a) λe=>
 some (.inr (.inr e))
def lI (p0:Sig) (p1:Det) (p2:Int) (a:Int) (f:Int):Option VI:=
 FR (jN p0) λk=>
 FR (bif (!k) then
 some true
 else
 FR (qx p0 p1) λl=>
 some (!l)) λb=>
 FR (bif b then
 some true
 else
 some (decide (p2<0))) λc=>
 FR (bif c then
 some true
 else
 some (decide ((p1.Next.length:Int)<=p2))) λd=>
 FR (bif d then
 some true
 else
 some (decide (a<0))) λe=>
 FR (bif e then
 some true
 else
 FR (dz p0) λm=>
 some (decide (m<=a))) λg=>
 bif g then
  some ([]:VI)
 else
  FR (nn p0.Out) λ_z46=>
  FR (rng (FW .i64 (1 * 2 ^ (min (FV p0.Out) (F3 F4))))) λ_=>
  FR (cntM (iM p0 p1 p2 a f) (FV ((FW .i64 (1 * 2 ^ (min (FV p0.Out) (F3 F4))))-0)) 0 ([]:VI)) λi=>
  aft some (λj=>
   some j) i
def fP (p0:Sig) (g:Det×Bool) (x42:Parity×VL×Bool) (s:Answer) (d:VI×Int×VV×VV) (i:Place) (e:Int) (a:VI×VI×VI):LO (Machine×Bool) (VI×VI×VI):=
 FR (idx a.1 d.2.1) λt=>
 FR (idx x42.1.Arena.Next t) λu=>
 FR (cA u x42.2.1 (g.1.Next.length:Int) i.At p0 e) λv=>
 FR (idx a.1 d.2.1) λj=>
 FR (idx x42.1.Arena.Next j) λk=>
 FR (idx k v) λl=>
 FR (idx s.Plan l) λb=>
 FR (cS a.1 b) λf=>
 FR (bif decide (f<0) then
  FR (appS 8 a.1 ([b]:VI)) λm=>
  some (m,((a.1.length:Int):Int))
 else
  some (a.1,f)) λc=>
 FR (appS 8 a.2.1 ([c.2]:VI)) λn=>
 FR (idx x42.2.1 b) λo=>
 FR (lI p0 g.1 i.At e o.At) λp=>
 FR (idx p 0) λq=>
 FR (appS 8 a.2.2 ([q]:VI)) λr=>
 some (.inr (.inr (c.1,n,r)))
def iK (p0:Sig) (i:Det×Bool) (x42:Parity×VL×Bool) (j:Answer) (a:VI×Int×VV×VV):LO (Machine×Bool) (VI×Int×VV×VV):=
 bif decide (a.2.1<(a.1.length:Int)) then
  FR (idx a.1 a.2.1) λk=>
  FR (idx x42.2.1 k) λl=>
  FR (dz p0) λc=>
  FR (rng c) λ_=>
  FR (cntM (fP p0 i x42 j a l) (FV (c-0)) 0 (a.1,([]:VI),([]:VI))) λd=>
  aft (λe=>some (.inl e)) (λb=>
   FR (appS 24 a.2.2.1 ([b.2.1]:VV)) λf=>
   FR (appS 24 a.2.2.2 ([b.2.2]:VV)) λg=>
   some (.inr (.inr (b.1,(FW .i64 (a.2.1+1)),f,g)))) d
 else
  some (.inr (.inl (a.1,a.2.1,a.2.2.1,a.2.2.2)))
def eo (p0:Sig) (p1:VC):Option (Machine×Bool):=
 FR (db p0 p1) λc=>
 bif (!c.2) then
  some (((⟨([]:VV),([]:VV)⟩:Machine):Machine),false)
 else
  FR (eZ p0 c.1) λd=>
  FR (ed d.1 d.2 0) λa=>
  FR (bif (!a.2.2) then
  some true
  else
  FR (eK a.1) λg=>
  FR (idx g 0) λi=>
  some (i !=0)) λe=>
  bif e then
   some (((⟨([]:VV),([]:VV)⟩:Machine):Machine),false)
  else
   FR (mH a.1) λj=>
   FR (ci (iK p0 c a j) (2 ^ 64) ((([0]:VI):VI),(0:Int),([]:VV),([]:VV))) λf=>
   aft some (λb=>
    bif decide (48<(b.1.length:Int)) then
     some (((⟨([]:VV),([]:VV)⟩:Machine):Machine),false)
    else
     some (((⟨b.2.2.1,b.2.2.2⟩:Machine):Machine),true)) f
def iQ (p0:Sig) (p1:Machine) (a:Int) (l:Unit):LO Bool Unit:=
 FR (idx p1.Next a) λb=>
 FR (dz p0) λf=>
 FR (bif ((b.length:Int) !=f) then
 some true
 else
 FR (idx p1.Out a) λg=>
 some ((g.length:Int) !=(b.length:Int))) λc=>
 FR (bif c then
 some true
 else
 FR (gK b (p1.Next.length:Int)) λi=>
 some (!i)) λd=>
 FR (bif d then
 some true
 else
 FR (idx p1.Out a) λj=>
 FR (nn p0.Out) λ_z64=>
 FR (gK j (FW .i64 (1 * 2 ^ (min (FV p0.Out) (F3 F4))))) λk=>
 some (!k)) λe=>
 bif e then
  some (.inl false)
 else
  some (.inr (.inr ()))
def iA (p0:Sig) (p1:Machine):Option Bool:=
 FR (bif decide ((p1.Next.length:Int)<1) then
 some true
 else
 some (decide (48<(p1.Next.length:Int)))) λa=>
 FR (bif a then
 some true
 else
 some ((p1.Out.length:Int) !=(p1.Next.length:Int))) λb=>
 bif b then
  some false
 else
  FR (cntM (iQ p0 p1) p1.Next.length 0 ()) λc=>
  aft some (λd=>
   some true) c
def gH (p0:Machine) (b:Int) (c:Int) (a:VI):LO VI VI:=
 FR (idx p0.Out b) λd=>
 FR (idx p0.Out c) λe=>
 FR (dm d e) λf=>
 bif f then
  FR (idx a b) λi=>
  FR (setI a b c) λg=>
  some (.inr (.inl g))
 else
  some (.inr (.inr a))
def eG (p0:Machine) (a:Int) (d:VI):LO VI VI:=
 FR (rng (FW .i64 (a+1))) λ_=>
 FR (cntM (gH p0 a) (FV ((FW .i64 (a+1))-0)) 0 d) λb=>
 aft (λc=>some (.inl c)) (λe=>
  some (.inr (.inr e))) b
def er (p0:Machine) (a:VI) (e:Int) (f:Int) (b:Int) (d:Bool):LO VI Bool:=
 FR (bif d then
 FR (idx p0.Next e) λg=>
 FR (idx g b) λi=>
 FR (idx a i) λj=>
 FR (idx p0.Next f) λk=>
 FR (idx k b) λl=>
 FR (idx a l) λm=>
 some (j==m)
 else
 some false) λc=>
 some (.inr (.inr c))
def gJ (p0:Machine) (c:VI) (a:Int) (d:Int) (b:VI):LO VI VI:=
 FR (idx c a) λi=>
 FR (idx c d) λj=>
 FR (idx p0.Next a) λk=>
 FR (cntM (er p0 c a d) k.length 0 ((i==j):Bool)) λe=>
 aft (λf=>some (.inl f)) (λg=>
  bif g then
   FR (idx b a) λm=>
   FR (setI b a d) λl=>
   some (.inr (.inl l))
  else
   some (.inr (.inr b))) e
def eI (p0:Machine) (f:VI) (a:Int) (d:VI):LO VI VI:=
 FR (rng (FW .i64 (a+1))) λ_=>
 FR (cntM (gJ p0 f a) (FV ((FW .i64 (a+1))-0)) 0 d) λb=>
 aft (λc=>some (.inl c)) (λe=>
  some (.inr (.inr e))) b
def eH (p0:Machine) (a:VI):LO VI VI:=
 FR (mkS 8 (a.length:Int) (0:Int)) λf=>
 FR (cntM (eI p0 a) a.length 0 f) λc=>
 aft (λd=>some (.inl d)) (λb=>
  FR (dm b a) λe=>
  bif e then
   some (.inl a)
  else
   some (.inr (.inr b))) c
def jK (p0:Machine):Option VI:=
 FR (mkS 8 (p0.Next.length:Int) (0:Int)) λa=>
 FR (cntM (eG p0) a.length 0 a) λb=>
 aft some (λd=>
  FR (ci (eH p0) (2 ^ 64) d) λc=>
  aft some (λe=>
   none) c) b
def iJ (c:VI) (g:VI) (f:Int) (a:VI×VI):LO Machine (VI×VI):=
 FR (idx g f) λd=>
 FR (idx c d) λi=>
 FR (cS a.1 i) λe=>
 FR (bif decide (e<0) then
  FR (idx c d) λj=>
  FR (appS 8 a.1 ([j]:VI)) λk=>
  some (k,((a.1.length:Int):Int))
 else
  some (a.1,e)) λb=>
 FR (appS 8 a.2 ([b.2]:VI)) λl=>
 some (.inr (.inr (b.1,l)))
def dS (p1:Machine) (f:VI) (a:VI×Int×VV×VV):LO Machine (VI×Int×VV×VV):=
 bif decide (a.2.1<(a.1.length:Int)) then
  FR (idx a.1 a.2.1) λg=>
  FR (idx p1.Next g) λc=>
  FR (cntM (iJ f c) c.length 0 (a.1,([]:VI))) λd=>
  aft (λe=>some (.inl e)) (λb=>
   FR (appS 24 a.2.2.1 ([b.2]:VV)) λi=>
   FR (idx b.1 a.2.1) λj=>
   FR (idx p1.Out j) λk=>
   FR (appS 8 ([]:VI) k) λl=>
   FR (appS 24 a.2.2.2 ([l]:VV)) λm=>
   some (.inr (.inr (b.1,(FW .i64 (a.2.1+1)),i,m)))) d
 else
  some (.inr (.inl (a.1,a.2.1,a.2.2.1,a.2.2.2)))
def mG (p0:Sig) (p1:Machine):Option (Machine):=
 FR (jN p0) λe=>
 FR (bif (!e) then
 some true
 else
 FR (iA p0 p1) λf=>
 some (!f)) λc=>
 bif c then
  some ((⟨([]:VV),([]:VV)⟩:Machine):Machine)
 else
  FR (jK p1) λb=>
  FR (idx b 0) λg=>
  FR (ci (dS p1 b) (2 ^ 64) ((([g]:VI):VI),(0:Int),([]:VV),([]:VV))) λd=>
  aft some (λa=>
   some ((⟨a.2.2.1,a.2.2.2⟩:Machine):Machine)) d
def strings_Join (p0:(List ByteArray)) (p1:ByteArray):Option (ByteArray):=joinB p0 p1
def eE (p1:Machine) (c:Int) (d:VI) (a:Int) (b:(List ByteArray)):LO ByteArray ((List ByteArray)):=
 FR (idx d a) λe=>
 FR (idx p1.Out c) λi=>
 FR (idx i a) λj=>
 FR (fB e) λf=>
 FR (catB f (ByteArray.mk #[47])) λg=>
 FR (fB j) λk=>
 FR (catB g k) λl=>
 FR (appS 16 b ([l]:List ByteArray)) λm=>
 some (.inr (.inr m))
def gF (p1:Machine) (a:Int) (e:ByteArray):LO ByteArray (ByteArray):=
 FR (idx p1.Next a) λb=>
 FR (cntM (eE p1 a b) b.length 0 (([]:List ByteArray):(List ByteArray))) λc=>
 aft (λd=>some (.inl d)) (λf=>
  FR (strings_Join f (ByteArray.mk #[32])) λg=>
  FR (catB g (ByteArray.mk #[10])) λi=>
  FR (catB e i) λj=>
  some (.inr (.inr j))) c
def fx (p0:Sig) (p1:Machine):Option (ByteArray):=
 FR (jN p0) λd=>
 FR (bif (!d) then
 some true
 else
 FR (iA p0 p1) λe=>
 some (!e)) λa=>
 bif a then
  some ((ByteArray.mk #[]):ByteArray)
 else
  FR (cntM (gF p1) p1.Next.length 0 ((ByteArray.mk #[]):ByteArray)) λb=>
  aft some (λc=>
   some c) b
def strings_ReplaceAll (p0 p1 p2:ByteArray):Option (ByteArray):=replB p0 p1 p2
def iZ (p0:Sig) (p1:Machine) (p2:Det) (x42:(Int×Int)) (x47:(Int×Int)) (m:VI) (b:Int) (a:(List (Int×Int))×VI×VI×(List ((Int×Int)×Int))):LO ((Option watch)×Bool) ((List (Int×Int))×VI×VI×(List ((Int×Int)×Int))):=
 FR (idx m b) λd=>
 FR (idx p1.Out x42.1) λn=>
 FR (idx n b) λf=>
 FR (dz p0) λg=>
 FR (idx p2.Next x47.2) λo=>
 FR (idx o (FW .i64 ((FW .i64 (f * g))+b))) λe=>
 FR (mget kwI2 a.2.2.2 ((d,e):(Int×Int)) (0:Int)) λi=>
 FR (bif (!i.2) then
  FR (mset kwI2 a.2.2.2 ((d,e):(Int×Int)) (a.1.length:Int)) λp=>
  FR (appS 16 a.1 ([(d,e)]:List (Int×Int))) λj=>
  some (j,((a.1.length:Int):Int),p)
 else
  some (a.1,i.1,a.2.2.2)) λc=>
 FR (appS 8 a.2.1 ([c.2.1]:VI)) λk=>
 FR (appS 8 a.2.2.1 ([(FW .i64 ((FW .i64 (f * g))+b))]:VI)) λl=>
 some (.inr (.inr (c.1,k,l,c.2.2)))
def iY (p0:Sig) (p1:Machine) (p2:Det) (a:(List (Int×Int))×Int×VV×VV×(List ((Int×Int)×Int))):LO ((Option watch)×Bool) ((List (Int×Int))×Int×VV×VV×(List ((Int×Int)×Int))):=
 bif decide (a.2.1<(a.1.length:Int)) then
  FR (idx a.1 a.2.1) λc=>
  FR (idx a.1 a.2.1) λj=>
  FR (idx p1.Next c.1) λd=>
  FR (cntM (iZ p0 p1 p2 c j d) d.length 0 (a.1,([]:VI),([]:VI),a.2.2.2.2)) λe=>
  aft (λf=>some (.inl f)) (λb=>
   bif decide (256<(b.1.length:Int)) then
    some (.inl ((none:Option watch),false))
   else
    FR (appS 24 a.2.2.1 ([b.2.1]:VV)) λg=>
    FR (appS 24 a.2.2.2.1 ([b.2.2.1]:VV)) λi=>
    some (.inr (.inr (b.1,(FW .i64 (a.2.1+1)),g,i,b.2.2.2)))) e
 else
  some (.inr (.inl (a.1,a.2.1,a.2.2.1,a.2.2.2.1,a.2.2.2.2)))
def i7 (g:(List (Int×Int))×Int×VV×VV×(List ((Int×Int)×Int))) (c:Pair) (b:Int) (a:VI×VI):LO ((Option watch)×Bool) (VI×VI):=
 FR (idx g.1 b) λd=>
 FR (ca c.Ask d.2) λi=>
 FR (bif i then
  FR (appS 8 a.1 ([b]:VI)) λj=>
  some j
 else
  some a.1) λe=>
 FR (ca c.Give d.2) λk=>
 FR (bif k then
  FR (appS 8 a.2 ([b]:VI)) λl=>
  some l
 else
  some a.2) λf=>
 some (.inr (.inr (e,f)))
def kB (p2:Det) (b:(List (Int×Int))×Int×VV×VV×(List ((Int×Int)×Int))) (f:Int) (e:VP):LO ((Option watch)×Bool) VP:=
 FR (idx p2.Pairs f) λg=>
 FR (cntM (i7 b g) b.1.length 0 (([]:VI),([]:VI))) λc=>
 aft (λd=>some (.inl d)) (λa=>
  FR (appS 48 e ([(⟨a.1,a.2⟩:Pair)]:VP)) λi=>
  some (.inr (.inr i))) c
def pg (p0:Sig) (p1:Machine) (p2:Det):Option ((Option watch)×Bool):=
 FR (mset kwI2 ([]:List ((Int×Int)×Int)) ((0,0):(Int×Int)) 0) λe=>
 FR (ci (iY p0 p1 p2) (2 ^ 64) ((([(0,0)]:List (Int×Int)):(List (Int×Int))),(0:Int),([]:VV),([]:VV),e)) λb=>
 aft some (λa=>
  FR (cntM (kB p2 a) p2.Pairs.length 0 ([]:VP)) λc=>
  aft some (λd=>
   some ((some (((⟨a.2.2.1,a.2.2.2.1,d⟩:watch):watch)):Option watch),true)) c) b
def nh (p0:Sig) (p1:Machine) (p2:VC):Option ((Option watch)×Bool):=
 FR (jN p0) λd=>
 FR (bif (!d) then
 some true
 else
 FR (iA p0 p1) λe=>
 some (!e)) λc=>
 bif c then
  some ((none:Option watch),false)
 else
  FR (db p0 p2) λa=>
  bif (!a.2) then
   some ((none:Option watch),false)
  else
   FR (pg p0 p1 a.1) λb=>
   some ((b.1:Option watch),b.2)
def fa (p1:VI) (a:Int) (b:VB):LO VB VB:=
 FR (ca p1 a) λc=>
 FR (idx b a) λe=>
 FR (setI b a (!c)) λd=>
 some (.inr (.inr d))
def io (p0:watch) (p1:VI):Option VB:=
 FR (mkS 1 (p0.next.length:Int) false) λa=>
 FR (cntM (fa p1) a.length 0 a) λb=>
 aft some (λc=>
  some c) b
def ot (p0:Int) (c0:VI):Option VI:=
 FR (appS 8 c0 ([p0]:VI)) λa=>
 some a
def cm (rc:Int->VV->VI->VB->VB->Option (VI×VB)) (p1:VV) (c:VB) (i:VI) (g:Int) (a:VI×VB):LO (VI×VB) (VI×VB):=
 FR (idx i g) λb=>
 FR (idx c b) λj=>
 FR (bif j then
 FR (idx a.2 b) λk=>
 some (!k)
 else
 some false) λf=>
 FR (bif f then
  FR (rc b p1 a.1 a.2 c) λe=>
  some (e.1,e.2)
 else
  some (a.1,a.2)) λd=>
 some (.inr (.inr (d.1,d.2)))
def cn (rc:Int->VV->VI->VB->VB->Option (VI×VB)) (p0:Int) (p1:VV) (d:VI) (c0:VB) (c:VB):Option (VI×VB):=
 FR (idx c0 p0) λi=>
 FR (setI c0 p0 true) λg=>
 FR (idx p1 p0) λb=>
 FR (cntM (cm rc p1 c b) b.length 0 (d,g)) λe=>
 aft some (λa=>
  FR (ot p0 a.1) λf=>
  some (f,a.2)) e
def bZ:Nat->Int->VV->VI->VB->VB->Option (VI×VB)
 |0=>λ_ _ _ _ _=>none
 |n+1=>cn (bZ n)
def sj (p0:Int) (c0:VI):Option VI:=
 FR (appS 8 c0 ([p0]:VI)) λa=>
 some a
def cV (rc:Int->VV->VI->VB->VB->Option (VI×VB)) (p1:VV) (c:VB) (i:VI) (g:Int) (a:VI×VB):LO (VI×VB) (VI×VB):=
 FR (idx i g) λb=>
 FR (idx c b) λj=>
 FR (bif j then
 FR (idx a.2 b) λk=>
 some (!k)
 else
 some false) λf=>
 FR (bif f then
  FR (rc b p1 a.1 a.2 c) λe=>
  some (e.1,e.2)
 else
  some (a.1,a.2)) λd=>
 some (.inr (.inr (d.1,d.2)))
def cL (rc:Int->VV->VI->VB->VB->Option (VI×VB)) (p0:Int) (p1:VV) (d:VI) (c0:VB) (c:VB):Option (VI×VB):=
 FR (idx c0 p0) λi=>
 FR (setI c0 p0 true) λg=>
 FR (idx p1 p0) λb=>
 FR (cntM (cV rc p1 c b) b.length 0 (d,g)) λe=>
 aft some (λa=>
  FR (sj p0 a.1) λf=>
  some (f,a.2)) e
def ck:Nat->Int->VV->VI->VB->VB->Option (VI×VB)
 |0=>λ_ _ _ _ _=>none
 |n+1=>cL (ck n)
def eC (p0:VV):Option VV:=
 if p0.length<4611686018427387904/\(p0.all λa=> !a.isEmpty)=true then some (p0.mergeSort leI) else none
def kq (p1:VB) (c:Int) (g:VI) (f:Int) (a:VV):LO VV VV:=
 FR (idx g f) λb=>
 FR (idx p1 c) λi=>
 FR (bif i then
 FR (idx p1 b) λj=>
 some j
 else
 some false) λd=>
 FR (bif d then
  FR (idx a b) λk=>
  FR (appS 8 k ([c]:VI)) λl=>
  FR (idx a b) λn=>
  FR (setI a b l) λm=>
  some m
 else
  some a) λe=>
 some (.inr (.inr e))
def gM (p0:VV) (p1:VB) (a:Int) (e:VV):LO VV VV:=
 FR (idx p0 a) λb=>
 FR (cntM (kq p1 a b) b.length 0 e) λc=>
 aft (λd=>some (.inl d)) (λf=>
  some (.inr (.inr f))) c
def iX (p0:VV) (p1:VB) (b:Int) (a:VI×VB):LO VV (VI×VB):=
 FR (idx p1 b) λf=>
 FR (bif f then
 FR (idx a.2 b) λg=>
 some (!g)
 else
 some false) λe=>
 FR (bif e then
  FR (bZ (2 ^ 64) b p0 a.1 a.2 p1) λd=>
  some (d.1,d.2)
 else
  some (a.1,a.2)) λc=>
 some (.inr (.inr (c.1,c.2)))
def dT (p0:VV) (p1:VB) (g:VV) (f:VI×VB) (a:VV×Int×VB):LO VV (VV×Int×VB):=
 bif decide (0<=a.2.1) then
  FR (idx f.1 a.2.1) λb=>
  FR (idx a.2.2 b) λi=>
  bif i then
   some (.inr (.inr (a.1,(FW .i64 (a.2.1-1)),a.2.2)))
  else
   FR (ck (2 ^ 64) b g ([]:VI) a.2.2 p1) λc=>
   FR (cr c.1) λj=>
   FR (bif decide (1<(c.1.length:Int)) then
   some true
   else
   FR (idx p0 b) λk=>
   FR (ca k b) λl=>
   some l) λd=>
   FR (bif d then
    FR (appS 24 a.1 ([j]:VV)) λm=>
    some m
   else
    some a.1) λe=>
   some (.inr (.inr (e,(FW .i64 (a.2.1-1)),c.2)))
 else
  some (.inr (.inl (a.1,a.2.1,a.2.2)))
def pc (p0:VV) (p1:VB):Option VV:=
 FR (mkS 24 (p0.length:Int) ([]:VI)) λi=>
 FR (cntM (gM p0 p1) p0.length 0 i) λc=>
 aft some (λf=>
  FR (mkS 1 (p0.length:Int) false) λj=>
  FR (cntM (iX p0 p1) p0.length 0 (([]:VI),j)) λd=>
  aft some (λa=>
   FR (mkS 1 (p0.length:Int) false) λk=>
   FR (ci (dT p0 p1 f a) (2 ^ 64) (([]:VV),(FW .i64 ((a.1.length:Int)-1)),k)) λb=>
   aft some (λe=>
    FR (eC e.1) λg=>
    some g) b) d) c
def fc (p1:Pair) (e:VI) (d:Int) (a:VI):LO VI VI:=
 FR (idx e d) λb=>
 FR (ca p1.Ask b) λf=>
 FR (bif f then
  FR (appS 8 a ([b]:VI)) λg=>
  some g
 else
  some a) λc=>
 some (.inr (.inr c))
def fb (p1:Pair) (g:VV) (f:Int) (d:VI):LO VI VI:=
 FR (idx g f) λa=>
 FR (cntM (fc p1 a) a.length 0 d) λb=>
 aft (λc=>some (.inl c)) (λe=>
  some (.inr (.inr e))) b
def ip (p0:watch) (p1:Pair):Option VI:=
 FR (io p0 p1.Give) λd=>
 FR (pc p0.next d) λa=>
 FR (cntM (fb p1 a) a.length 0 ([]:VI)) λb=>
 aft some (λc=>
  FR (cr c) λe=>
  some e) b
def fL (p0:watch) (b:Int) (a:VI):LO VI VI:=
 FR (idx p0.pairs b) λd=>
 FR (ip p0 d) λe=>
 FR (bif decide (0<(e.length:Int)) then
  FR (appS 8 a ([b]:VI)) λf=>
  some f
 else
  some a) λc=>
 some (.inr (.inr c))
def i8 (p0:watch):Option VI:=
 FR (cntM (fL p0) p0.pairs.length 0 ([]:VI)) λa=>
 aft some (λb=>
  some b) a
def jt (p0:Sig) (p1:Machine) (p2:VC):Option Bool:=
 FR (nh p0 p1 p2) λa=>
 FR (bif a.2 then
 FR (guardS a.1.isSome) λ_g346=>
 FR (i8 (a.1.getD (⟨([]:VV),([]:VV),([]:VP)⟩:watch))) λc=>
 some ((c.length:Int)==0)
 else
 some false) λb=>
 some b
def qD (p0:Bool):Option (ByteArray):=
 bif p0 then
  some ((ByteArray.mk #[121]):ByteArray)
 else
  some ((ByteArray.mk #[110]):ByteArray)
def gN (p0:VI) (b:Int) (a:(List ByteArray)):LO ByteArray ((List ByteArray)):=
 FR (idx p0 b) λc=>
 FR (fB c) λd=>
 FR (appS 16 a ([d]:List ByteArray)) λe=>
 some (.inr (.inr e))
def jP (p0:VI):Option (ByteArray):=
 FR (cntM (gN p0) p0.length 0 (([]:List ByteArray):(List ByteArray))) λa=>
 aft some (λb=>
  FR (strings_Join b (ByteArray.mk #[32])) λc=>
  some c) a
def e6 (b:Rival×Bool) (a:Int) (c:(List ByteArray)):LO ByteArray ((List ByteArray)):=
 FR (idx b.1.In a) λd=>
 FR (idx b.1.Next a) λe=>
 FR (appS 8 ([d]:VI) e) λf=>
 FR (jP f) λg=>
 FR (appS 16 c ([g]:List ByteArray)) λi=>
 some (.inr (.inr i))
def en (p0:bench):Option (ByteArray):=
 FR (dF p0.sig p0.clauses) λa=>
 bif (!a.2) then
  some ((ByteArray.mk #[45]):ByteArray)
 else
  FR (cntM (e6 a) a.1.In.length 0 (([]:List ByteArray):(List ByteArray))) λb=>
  aft some (λc=>
   FR (strings_Join c (ByteArray.mk #[44,32])) λd=>
   some d) b
def mn (p0:bench):Option (ByteArray):=
 none
def rm (p0:Parity):Option Bool:=
 none
def cv (p0:bench) (p1:ByteArray):Option (ByteArray):=
 bif (eqB p1 (ByteArray.mk #[119,105,110,115])) then
  FR (fO p0.sig p0.clauses) λc=>
  bif (c==0) then
   some ((ByteArray.mk #[109,97,99,104,105,110,101]):ByteArray)
  else
   bif (c==1) then
    some ((ByteArray.mk #[119,111,114,108,100]):ByteArray)
   else
    some ((ByteArray.mk #[45]):ByteArray)
 else
  bif (eqB p1 (ByteArray.mk #[115,116,97,116,101,115])) then
   FR (db p0.sig p0.clauses) λa=>
   bif (!a.2) then
    some ((ByteArray.mk #[45]):ByteArray)
   else
    FR (fB (a.1.Next.length:Int)) λm=>
    FR (catB m (ByteArray.mk #[32])) λn=>
    FR (mY p0.sig a.1) λo=>
    FR (fB (o.Next.length:Int)) λp=>
    FR (catB n p) λq=>
    some q
  else
   bif (eqB p1 (ByteArray.mk #[109,97,99,104,105,110,101])) then
    FR (eo p0.sig p0.clauses) λd=>
    bif (!d.2) then
     some ((ByteArray.mk #[45]):ByteArray)
    else
     FR (mG p0.sig d.1) λr=>
     FR (fx p0.sig r) λs=>
     FR (strings_TrimSuffix s (ByteArray.mk #[10])) λt=>
     FR (strings_ReplaceAll t (ByteArray.mk #[10]) (ByteArray.mk #[44,32])) λu=>
     some u
   else
    bif (eqB p1 (ByteArray.mk #[99,104,101,99,107,115])) then
     FR (eo p0.sig p0.clauses) λb=>
     bif (!b.2) then
      some ((ByteArray.mk #[45]):ByteArray)
     else
      FR (jt p0.sig b.1 p0.clauses) λe=>
      FR (qD e) λf=>
      some f
    else
     bif (eqB p1 (ByteArray.mk #[99,111,117,110,116,101,114])) then
      FR (en p0) λg=>
      some g
     else
      bif (eqB p1 (ByteArray.mk #[115,111,108,118,101])) then
       FR (mn p0) λi=>
       some i
      else
       bif (eqB p1 (ByteArray.mk #[119,97,121,115])) then
        FR (kS p0.game) λj=>
        bif (!j) then
         some ((ByteArray.mk #[101,114,114,111,114]):ByteArray)
        else
         FR (rm p0.game) λk=>
         FR (qD k) λl=>
         some l
       else
        bif (eqB p1 (ByteArray.mk #[99,108,101,97,114])) then
         none
        else
         some ((ByteArray.mk #[101,114,114,111,114]):ByteArray)
def iO (p0:bench) (p1:ByteArray):Option (ByteArray):=
 none
def kc (p0:bench) (p1:ByteArray):Option (ByteArray):=
 none
def m0 (p0:bench) (p1:ByteArray) (p2:ByteArray):Option (ByteArray):=
 none
def mo (p0:bench) (p1:ByteArray) (p2:ByteArray):Option (ByteArray):=
 none
def eY (p0:bench) (p1:ByteArray):Option (ByteArray×Int×Int×VC):=
 FR (strings_Split p1 (ByteArray.mk #[32])) λa=>
 FR (idx a 0) λx=>
 FR (catB x (ByteArray.mk #[32])) λA=>
 FR (strings_TrimPrefix p1 A) λd=>
 FR (idx a 0) λB=>
 FR (bif (eqB B (ByteArray.mk #[99,108,97,117,115,101])) then
 some (decide (1<(a.length:Int)))
 else
 some false) λk=>
 bif k then
  FR (iN p0 d) λe=>
  some (e.1,p0.sig.In,p0.sig.Out,e.2)
 else
  FR (idx a 0) λC=>
  FR (bif (eqB C (ByteArray.mk #[118,101,114,116,101,120])) then
  some (decide (1<(a.length:Int)))
  else
  some false) λl=>
  bif l then
   FR (kU p0 d) λD=>
   some (D,p0.sig.In,p0.sig.Out,p0.clauses)
  else
   bif ((a.length:Int)==1) then
    FR (cv p0 p1) λE=>
    some (E,p0.sig.In,p0.sig.Out,p0.clauses)
   else
    FR (bif ((a.length:Int)==2) then
    FR (idx a 0) λF=>
    some (eqB F (ByteArray.mk #[114,117,110]))
    else
    some false) λm=>
    bif m then
     FR (idx a 1) λG=>
     FR (iO p0 G) λH=>
     some (H,p0.sig.In,p0.sig.Out,p0.clauses)
    else
     FR (bif ((a.length:Int)==2) then
     FR (idx a 0) λI=>
     some (eqB I (ByteArray.mk #[97,103,97,105,110,115,116]))
     else
     some false) λn=>
     bif n then
      FR (idx a 1) λK=>
      FR (kc p0 K) λL=>
      some (L,p0.sig.In,p0.sig.Out,p0.clauses)
     else
      FR (bif ((a.length:Int)==3) then
      FR (idx a 0) λM=>
      some (eqB M (ByteArray.mk #[115,105,103]))
      else
      some false) λo=>
      bif o then
       FR (idx a 1) λN=>
       FR (kw N 3) λc=>
       FR (idx a 2) λp=>
       FR (kw p 3) λb=>
       FR (bif (!c.2) then
       some true
       else
       some (!b.2)) λf=>
       FR (bif f then
       some true
       else
       FR (jN (⟨c.1,b.1⟩:Sig)) λq=>
       some (!q)) λg=>
       bif g then
        some (((ByteArray.mk #[101,114,114,111,114]):ByteArray),p0.sig.In,p0.sig.Out,p0.clauses)
       else
        some (((ByteArray.mk #[45]):ByteArray),c.1,b.1,([]:VC))
      else
       FR (bif ((a.length:Int)==3) then
       FR (idx a 0) λr=>
       some (eqB r (ByteArray.mk #[119,111,114,100]))
       else
       some false) λi=>
       bif i then
        FR (idx a 1) λs=>
        FR (idx a 2) λt=>
        FR (m0 p0 s t) λu=>
        some (u,p0.sig.In,p0.sig.Out,p0.clauses)
       else
        FR (bif ((a.length:Int)==3) then
        FR (idx a 0) λv=>
        some (eqB v (ByteArray.mk #[118,97,108,117,101]))
        else
        some false) λj=>
        bif j then
         FR (idx a 1) λw=>
         FR (idx a 2) λy=>
         FR (mo p0 w y) λz=>
         some (z,p0.sig.In,p0.sig.Out,p0.clauses)
        else
         some (((ByteArray.mk #[101,114,114,111,114]):ByteArray),p0.sig.In,p0.sig.Out,p0.clauses)
def iq (f:(List ByteArray)) (e:Int) (a:ByteArray×Int×Int×VC):LO ByteArray (ByteArray×Int×Int×VC):=
 FR (idx f e) λd=>
 FR (bif (!(eqB d (ByteArray.mk #[]))) then
  FR (eY (⟨(⟨a.2.1,a.2.2.1⟩:Sig),a.2.2.2,(⟨(⟨([]:VI),([]:VV)⟩:Arena),([]:VI)⟩:Parity)⟩:bench) d) λc=>
  FR (catB c.1 (ByteArray.mk #[10])) λg=>
  FR (catB a.1 g) λi=>
  some (i,c.2.1,c.2.2.1,c.2.2.2)
 else
  some (a.1,a.2.1,a.2.2.1,a.2.2.2)) λb=>
 some (.inr (.inr (b.1,b.2.1,b.2.2.1,b.2.2.2)))
def sV (p0:ByteArray):Option (ByteArray):=
 FR (strings_TrimSuffix p0 (ByteArray.mk #[10])) λe=>
 FR (strings_Split e (ByteArray.mk #[10])) λa=>
 FR (bif decide (4000<(p0.size:Int)) then
 some true
 else
 some (decide (200<(a.length:Int)))) λb=>
 bif b then
  some ((ByteArray.mk #[]):ByteArray)
 else
  FR (cntM (iq a) a.length 0 (((ByteArray.mk #[]):ByteArray),(1:Int),(1:Int),([]:VC))) λc=>
  aft some (λd=>
   some d.1) c
def lc (p0:ByteArray) (b:Int) (a:(List ByteArray)×Int):LO (List ByteArray) ((List ByteArray)×Int):=
 FR (idxB p0 b) λd=>
 FR (bif (d==10) then
  FR (subB p0 a.2 b) λe=>
  FR (appS 16 a.1 ([e]:List ByteArray)) λf=>
  some (f,(FW .i64 (b+1)))
 else
  some (a.1,a.2)) λc=>
 some (.inr (.inr (c.1,c.2)))
def tb (p0:ByteArray):Option ((List ByteArray)):=
 FR (rng (p0.size:Int)) λ_=>
 FR (cntM (lc p0) (FV ((p0.size:Int)-0)) 0 ((([]:List ByteArray):(List ByteArray)),(0:Int))) λa=>
 aft some (λb=>
  some b.1) a
def sn  (a:Int×ByteArray):LO ByteArray (Int×ByteArray):=
 FR (bif (eqB a.2 (ByteArray.mk #[])) then
 some true
 else
 some (decide (0<a.1))) λb=>
 bif b then
  FR (catB (strB ([(FW .u8 (FW .i64 (48+(F2 a.1 10))))]:VI)) a.2) λc=>
  some (.inr (.inr ((FW .i64 (Int.tdiv a.1 10)),c)))
 else
  some (.inr (.inl (a.1,a.2)))
def j6 (p0:Int):Option (ByteArray):=
 FR (bif decide (p0<0) then
  some ((FW .i64 (0-p0)),true)
 else
  some (p0,false)) λa=>
 FR (ci sn (2 ^ 64) (a.1,((ByteArray.mk #[]):ByteArray))) λc=>
 aft some (λb=>
  FR (bif a.2 then
   FR (catB (ByteArray.mk #[45]) b.2) λe=>
   some e
  else
   some b.2) λd=>
  some d) c
def je (p0:Sig) (p1:VC) (a:Int) (d:Unit):LO Bool Unit:=
 FR (idx p1 a) λb=>
 FR (jy p0 b) λc=>
 bif (!c) then
  some (.inl false)
 else
  some (.inr (.inr ()))
def iF (p0:Sig) (p1:VC):Option Bool:=
 FR (ma p0) λc=>
 FR (bif (!c) then
 some true
 else
 some (decide (3<(p1.length:Int)))) λa=>
 bif a then
  some false
 else
  FR (cntM (je p0 p1) p1.length 0 ()) λb=>
  aft some (λd=>
   some true) b
def pB (p0:Int):Option (Pair):=
 FR (bif (p0==1) then
  some true
 else
  some ((p0==5):Bool)) λa=>
 bif a then
  some ((⟨([1]:VI),([]:VI)⟩:Pair):Pair)
 else
  bif (p0==2) then
   some ((⟨([2]:VI),([]:VI)⟩:Pair):Pair)
  else
   bif (p0==3) then
    some ((⟨([1]:VI),([0]:VI)⟩:Pair):Pair)
   else
    bif (p0==4) then
     some ((⟨([0,1]:VI),([1]:VI)⟩:Pair):Pair)
    else
     bif (p0==6) then
      some ((⟨([0]:VI),([]:VI)⟩:Pair):Pair)
     else
      some ((⟨([2,3]:VI),([1,3]:VI)⟩:Pair):Pair)
def j7 (p0:Int):Option Int:=
 bif (p0==2) then
  some (3:Int)
 else
  bif (p0==7) then
   some (4:Int)
  else
   some (2:Int)
def nH (p0:VI) (p1:Int) (a:Int) (c:Unit):LO Bool Unit:=
 FR (idx p0 a) λb=>
 bif (b==p1) then
  some (.inl true)
 else
  some (.inr (.inr ()))
def kJ (p0:VI) (p1:Int):Option Bool:=
 FR (cntM (nH p0 p1) p0.length 0 ()) λa=>
 aft some (λb=>
  some false) a
def gx (p0:Bool):Option Int:=
 bif p0 then
  some (1:Int)
 else
  some (0:Int)
def kK (p0:Int) (p1:Int):Option Int:=
 bif decide (p1<p0) then
  some p0
 else
  some p1
def pA (p0:Clause) (p1:Int) (p2:Int):Option Int:=
 FR (kJ p0.A p2) λe=>
 FR (gx e) λa=>
 FR (kJ p0.B p2) λf=>
 FR (gx f) λb=>
 bif (p0.Kind==1) then
  FR (kK p1 (FW .i64 (1-a))) λg=>
  some g
 else
  bif (p0.Kind==2) then
   FR (bif (p1==2) then
   some true
   else
   FR (bif (p1==1) then
   some (b==0)
   else
   some false) λc=>
   some c) λd=>
   bif d then
    some (2:Int)
   else
    some a
  else
   bif (p0.Kind==3) then
    bif (b==1) then
     some (0:Int)
    else
     FR (kK p1 a) λi=>
     some i
   else
    bif (p0.Kind==4) then
     some a
    else
     bif (p0.Kind==5) then
      some (FW .i64 (1-a))
     else
      bif (p0.Kind==6) then
       FR (kK p1 a) λj=>
       some j
      else
       some (FW .i64 ((FW .i64 (2 * a))+b))
def jh (p0:Sig) (p1:Clause) (b:Int×VV) (a:VI×Int):LO Det (VI×Int):=
 FR (d6 p0) λc=>
 bif decide (a.2<c) then
  FR (pA p1 b.1 a.2) λd=>
  FR (appS 8 a.1 ([d]:VI)) λe=>
  some (.inr (.inr (e,(FW .i64 (a.2+1)))))
 else
  some (.inr (.inl (a.1,a.2)))
def jg (p0:Sig) (p1:Clause) (a:Int×VV):LO Det (Int×VV):=
 FR (j7 p1.Kind) λe=>
 bif decide (a.1<e) then
  FR (ci (jh p0 p1 a) (2 ^ 64) (([]:VI),(0:Int))) λb=>
  aft (λc=>some (.inl c)) (λd=>
   FR (appS 24 a.2 ([d.1]:VV)) λf=>
   some (.inr (.inr ((FW .i64 (a.1+1)),f)))) b
 else
  some (.inr (.inl (a.1,a.2)))
def lZ (p0:Sig) (p1:Clause):Option (Det):=
 FR (jy p0 p1) λc=>
 bif (!c) then
  some ((⟨([]:VV),([]:VP)⟩:Det):Det)
 else
  FR (pB p1.Kind) λd=>
  FR (ci (jg p0 p1) (2 ^ 64) ((0:Int),([]:VV))) λa=>
  aft some (λb=>
   some ((⟨b.2,([d]:VP)⟩:Det):Det)) a
def jT (p0:VI) (p1:Int) (a:Int) (d:Unit):LO Bool Unit:=
 FR (idx p0 a) λb=>
 FR (gz b 0 (FW .i64 (p1-1))) λc=>
 bif (!c) then
  some (.inl false)
 else
  some (.inr (.inr ()))
def nL (p0:VI) (p1:Int):Option Bool:=
 FR (cntM (jT p0 p1) p0.length 0 ()) λa=>
 aft some (λb=>
  some true) a
def l9 (p0:VI) (p1:Int):Option Bool:=
 FR (gz p1 0 256) λc=>
 FR (bif c then
 FR (nJ p0 p1) λb=>
 some b
 else
 some false) λa=>
 some a
def kH (p0:VP) (p1:Int) (a:Int) (g:Unit):LO Bool Unit:=
 FR (idx p0 a) λc=>
 FR (l9 c.Ask p1) λd=>
 FR (bif (!d) then
 some true
 else
 FR (idx p0 a) λe=>
 FR (l9 e.Give p1) λf=>
 some (!f)) λb=>
 bif b then
  some (.inl false)
 else
  some (.inr (.inr ()))
def mQ (p0:VP) (p1:Int):Option Bool:=
 FR (gz p1 0 256) λc=>
 FR (bif (!c) then
 some true
 else
 some (decide (4<(p0.length:Int)))) λa=>
 bif a then
  some false
 else
  FR (cntM (kH p0 p1) p0.length 0 ()) λb=>
  aft some (λd=>
   some true) b
def nB (p0:Sig) (p1:Det) (a:Int) (g:Unit):LO Bool Unit:=
 FR (idx p1.Next a) λc=>
 FR (d6 p0) λd=>
 FR (bif ((c.length:Int) !=d) then
 some true
 else
 FR (idx p1.Next a) λe=>
 FR (nL e (p1.Next.length:Int)) λf=>
 some (!f)) λb=>
 bif b then
  some (.inl false)
 else
  some (.inr (.inr ()))
def nA (p0:Sig) (p1:Det):Option Bool:=
 FR (ma p0) λc=>
 FR (bif (!c) then
 some true
 else
 FR (gz (p1.Next.length:Int) 1 48) λd=>
 some (!d)) λa=>
 bif a then
  some false
 else
  FR (cntM (nB p0 p1) p1.Next.length 0 ()) λb=>
  aft some (λf=>
   FR (mQ p1.Pairs (p1.Next.length:Int)) λe=>
   some e) b
def jX (p0:VV) (p1:Int) (p2:Int) (a:Int) (g:Unit):LO Int Unit:=
 FR (idx p0 a) λc=>
 FR (idx c 0) λd=>
 FR (bif (d==p1) then
 FR (idx p0 a) λe=>
 FR (idx e 1) λf=>
 some (f==p2)
 else
 some false) λb=>
 bif b then
  some (.inl a)
 else
  some (.inr (.inr ()))
def nN (p0:VV) (p1:Int) (p2:Int):Option Int:=
 FR (cntM (jX p0 p1 p2) p0.length 0 ()) λa=>
 aft some (λb=>
  some ((-1):Int)) a
def jW (p0:VP) (p1:VV) (p2:Int) (c:Int) (b:Int) (a:VI×VI):LO VP (VI×VI):=
 FR (idx p0 c) λf=>
 FR (idx p1 b) λg=>
 FR (idx g p2) λi=>
 FR (kJ f.Ask i) λj=>
 FR (bif j then
  FR (appS 8 a.1 ([b]:VI)) λk=>
  some k
 else
  some a.1) λd=>
 FR (idx p0 c) λl=>
 FR (idx p1 b) λm=>
 FR (idx m p2) λn=>
 FR (kJ l.Give n) λo=>
 FR (bif o then
  FR (appS 8 a.2 ([b]:VI)) λp=>
  some p
 else
  some a.2) λe=>
 some (.inr (.inr (d,e)))
def jV (p0:VP) (p1:VV) (p2:Int) (e:Int) (d:VP):LO VP VP:=
 FR (cntM (jW p0 p1 p2 e) p1.length 0 (([]:VI),([]:VI))) λb=>
 aft (λc=>some (.inl c)) (λa=>
  FR (appS 48 d ([(⟨a.1,a.2⟩:Pair)]:VP)) λf=>
  some (.inr (.inr f))) b
def lA (p0:VP) (p1:VV) (p2:Int):Option VP:=
 FR (cntM (jV p0 p1 p2) p0.length 0 ([]:VP)) λa=>
 aft some (λb=>
  some b) a
def gB (p0:Det) (p1:Det) (c:VV×Int×VV) (d:Int) (a:VV×VI):LO (Det×Bool) (VV×VI):=
 FR (idx a.1 c.2.1) λi=>
 FR (idx i 0) λj=>
 FR (idx p0.Next j) λk=>
 FR (idx k d) λe=>
 FR (idx a.1 c.2.1) λl=>
 FR (idx l 1) λm=>
 FR (idx p1.Next m) λn=>
 FR (idx n d) λf=>
 FR (nN a.1 e f) λg=>
 FR (bif decide (g<0) then
  FR (appS 24 a.1 ([([e,f]:VI)]:VV)) λo=>
  some (o,((a.1.length:Int):Int))
 else
  some (a.1,g)) λb=>
 FR (appS 8 a.2 ([b.2]:VI)) λp=>
 some (.inr (.inr (b.1,p)))
def jl (p0:Det) (p1:Det) (p2:Int) (a:VV×Int×VV):LO (Det×Bool) (VV×Int×VV):=
 bif decide (a.2.1<(a.1.length:Int)) then
  FR (rng p2) λ_=>
  FR (cntM (gB p0 p1 a) (FV (p2-0)) 0 (a.1,([]:VI))) λc=>
  aft (λd=>some (.inl d)) (λb=>
   bif decide (48<(b.1.length:Int)) then
    some (.inl (((⟨([]:VV),([]:VP)⟩:Det):Det),false))
   else
    FR (appS 24 a.2.2 ([b.2]:VV)) λe=>
    some (.inr (.inr (b.1,(FW .i64 (a.2.1+1)),e)))) c
 else
  some (.inr (.inl (a.1,a.2.1,a.2.2)))
def gA (p0:Det) (p1:Det) (p2:Int):Option (Det×Bool):=
 FR (ci (jl p0 p1 p2) (2 ^ 64) ((([([0,0]:VI)]:VV):VV),(0:Int),([]:VV))) λb=>
 aft some (λa=>
  FR (lA p0.Pairs a.1 0) λc=>
  FR (lA p1.Pairs a.1 1) λd=>
  FR (appS 48 c d) λe=>
  some (((⟨a.2.2,e⟩:Det):Det),true)) b
def lY (p0:Sig) (p1:Det) (p2:Det):Option (Det×Bool):=
 FR (nA p0 p1) λd=>
 FR (bif (!d) then
 some true
 else
 FR (nA p0 p2) λe=>
 some (!e)) λb=>
 FR (bif b then
 some true
 else
 some (decide (4<(FW .i64 ((p1.Pairs.length:Int)+(p2.Pairs.length:Int)))))) λc=>
 bif c then
  some (((⟨([]:VV),([]:VP)⟩:Det):Det),false)
 else
  FR (d6 p0) λf=>
  FR (gA p1 p2 f) λa=>
  some (a.1,a.2)
def gw (p0:Sig) (p1:VC) (c:Int) (b:VV×VP):LO (Det×Bool) (VV×VP):=
 FR (idx p1 c) λd=>
 FR (lZ p0 d) λe=>
 FR (lY p0 (⟨b.1,b.2⟩:Det) e) λa=>
 bif (!a.2) then
  some (.inl (((⟨([]:VV),([]:VP)⟩:Det):Det),false))
 else
  some (.inr (.inr (a.1.Next,a.1.Pairs)))
def cU (p0:Sig) (p1:VC):Option (Det×Bool):=
 FR (iF p0 p1) λc=>
 bif (!c) then
  some (((⟨([]:VV),([]:VP)⟩:Det):Det),false)
 else
  FR (d6 p0) λd=>
  FR (mkS 8 d (0:Int)) λe=>
  FR (cntM (gw p0 p1) p1.length 0 ((([e]:VV):VV),([]:VP))) λb=>
  aft some (λa=>
   some (((⟨a.1,a.2⟩:Det):Det),true)) b
def me (p0:Sig):Option Int:=
 FR (ff p0.In) λa=>
 some a
def nE (p0:Sig) (p1:Int) (p2:Int):Option Int:=
 FR (ma p0) λi=>
 FR (bif (!i) then
 some true
 else
 FR (ff p0.In) λc=>
 FR (gz p1 0 (FW .i64 (c-1))) λd=>
 some (!d)) λa=>
 FR (bif a then
 some true
 else
 FR (ff p0.Out) λe=>
 FR (gz p2 0 (FW .i64 (e-1))) λf=>
 some (!f)) λb=>
 bif b then
  some ((-1):Int)
 else
  FR (ff p0.In) λg=>
  some (FW .i64 ((FW .i64 (p2 * g))+p1))
def eO (p0:VI):Option VI:=
 FR (appS 8 ([]:VI) p0) λa=>
 some a
def iH (p0:VI) (p1:Int) (a:Int):LO VI Int:=
 FR (bif decide (a<(p0.length:Int)) then
 FR (idx p0 a) λc=>
 some (decide (c<p1))
 else
 some false) λb=>
 bif b then
  some (.inr (.inr (FW .i64 (a+1))))
 else
  some (.inr (.inl a))
def lw (p0:VI) (p1:Int):Option VI:=
 FR (ci (iH p0 p1) (2 ^ 64) (0:Int)) λc=>
 aft some (λa=>
  FR (bif decide (a<(p0.length:Int)) then
  FR (idx p0 a) λd=>
  some (d==p1)
  else
  some false) λb=>
  bif b then
   some p0
  else
   FR (subS p0 0 a) λe=>
   FR (eO e) λf=>
   FR (appS 8 f ([p1]:VI)) λg=>
   FR (subS p0 a (p0.length:Int)) λi=>
   FR (appS 8 g i) λj=>
   some j) c
def jY (p0:Sig) (p1:Det) (p2:Int) (b:Int) (a:VI×Int):LO VI (VI×Int):=
 FR (ff p0.Out) λc=>
 bif decide (a.2<c) then
  FR (idx p1.Next p2) λd=>
  FR (nE p0 b a.2) λe=>
  FR (idx d e) λf=>
  FR (lw a.1 f) λg=>
  some (.inr (.inr (g,(FW .i64 (a.2+1)))))
 else
  some (.inr (.inl (a.1,a.2)))
def nO (p0:Sig) (p1:Det) (p2:Int) (a:Int):Option VI:=
 FR (ci (jY p0 p1 p2 a) (2 ^ 64) (([]:VI),(0:Int))) λb=>
 aft some (λc=>
  some c.1) b
def gp (p1:Det) (d:Int) (b:Int) (c:Int) (a:VI):LO (Arena×VP×Bool) VI:=
 FR (appS 8 a ([(FW .i64 ((FW .i64 ((p1.Next.length:Int)+(FW .i64 (b * d))))+c))]:VI)) λe=>
 some (.inr (.inr e))
def gl (p1:Det) (a:Int) (f:Int) (b:VI×VV):LO (Arena×VP×Bool) (VI×VV):=
 FR (rng a) λ_=>
 FR (cntM (gp p1 a f) (FV (a-0)) 0 ([]:VI)) λc=>
 aft (λd=>some (.inl d)) (λe=>
  FR (appS 8 b.1 ([1]:VI)) λg=>
  FR (appS 24 b.2 ([e]:VV)) λi=>
  some (.inr (.inr (g,i)))) c
def gt (p0:Sig) (p1:Det) (b:Int) (c:Int) (a:VI×VV):LO (Arena×VP×Bool) (VI×VV):=
 FR (appS 8 a.1 ([0]:VI)) λd=>
 FR (nO p0 p1 b c) λe=>
 FR (appS 24 a.2 ([e]:VV)) λf=>
 some (.inr (.inr (d,f)))
def gq (p0:Sig) (p1:Det) (c:Int) (f:Int) (b:VI×VV):LO (Arena×VP×Bool) (VI×VV):=
 FR (rng c) λ_=>
 FR (cntM (gt p0 p1 f) (FV (c-0)) 0 (b.1,b.2)) λd=>
 aft (λe=>some (.inl e)) (λa=>
  some (.inr (.inr (a.1,a.2)))) d
def gu (p1:Det) (a:Int) (b:VP):LO (Arena×VP×Bool) VP:=
 FR (idx p1.Pairs a) λg=>
 FR (idx p1.Pairs a) λd=>
 FR (eO g.Ask) λc=>
 FR (eO d.Give) λe=>
 FR (appS 48 b ([(⟨c,e⟩:Pair)]:VP)) λf=>
 some (.inr (.inr f))
def iG (p0:Sig) (p1:Det):Option (Arena×VP×Bool):=
 FR (nA p0 p1) λi=>
 bif (!i) then
  some (((⟨([]:VI),([]:VV)⟩:Arena):Arena),([]:VP),false)
 else
  FR (me p0) λc=>
  FR (cntM (gl p1 c) p1.Next.length 0 (([]:VI),([]:VV))) λe=>
  aft some (λa=>
   FR (cntM (gq p0 p1 c) p1.Next.length 0 (a.1,a.2)) λf=>
   aft some (λb=>
    FR (cntM (gu p1) p1.Pairs.length 0 ([]:VP)) λd=>
    aft some (λg=>
     some (((⟨b.1,b.2⟩:Arena):Arena),g,true)) d) f) e
def kG (p0:Arena) (a:Int) (l:Unit):LO Bool Unit:=
 FR (idx p0.Owner a) λe=>
 FR (gz e 0 1) λf=>
 FR (bif (!f) then
 some true
 else
 FR (idx p0.Next a) λg=>
 some (decide ((g.length:Int)<1))) λb=>
 FR (bif b then
 some true
 else
 FR (idx p0.Next a) λi=>
 some (decide (16<(i.length:Int)))) λc=>
 FR (bif c then
 some true
 else
 FR (idx p0.Next a) λj=>
 FR (nJ j (p0.Owner.length:Int)) λk=>
 some (!k)) λd=>
 bif d then
  some (.inl false)
 else
  some (.inr (.inr ()))
def mP (p0:Arena):Option Bool:=
 FR (gz (p0.Owner.length:Int) 1 256) λc=>
 FR (bif (!c) then
 some true
 else
 some ((p0.Next.length:Int) !=(p0.Owner.length:Int))) λa=>
 bif a then
  some false
 else
  FR (cntM (kG p0) p0.Owner.length 0 ()) λb=>
  aft some (λd=>
   some true) b
def mb (p0:VI) (p1:Int) (a:Int) (c:Unit):LO Bool Unit:=
 FR (idx p0 a) λb=>
 bif (b==p1) then
  some (.inl true)
 else
  some (.inr (.inr ()))
def mR (p0:VI) (p1:Int):Option Bool:=
 FR (cntM (mb p0 p1) p0.length 0 ()) λa=>
 aft some (λb=>
  some false) a
def gX (p0:VP) (p1:VI) (p2:Int) (b:Int) (a:VI×VI):LO VI (VI×VI):=
 FR (idx p1 b) λd=>
 FR (idx p0 d) λe=>
 FR (mR e.Give p2) λf=>
 FR (bif f then
  FR (idx p1 b) λg=>
  FR (appS 8 a.1 ([g]:VI)) λi=>
  some (i,a.2)
 else
  FR (idx p1 b) λj=>
  FR (appS 8 a.2 ([j]:VI)) λk=>
  some (a.1,k)) λc=>
 some (.inr (.inr (c.1,c.2)))
def kO (p0:VP) (p1:VI) (p2:Int):Option VI:=
 FR (cntM (gX p0 p1 p2) p1.length 0 (([]:VI),([]:VI))) λb=>
 aft some (λa=>
  FR (appS 8 a.1 a.2) λc=>
  some c) b
def gW (p0:VI) (p1:VI) (a:Int) (d:Unit):LO Bool Unit:=
 FR (idx p0 a) λb=>
 FR (idx p1 a) λc=>
 bif (b !=c) then
  some (.inl false)
 else
  some (.inr (.inr ()))
def jS (p0:VI) (p1:VI):Option Bool:=
 bif ((p0.length:Int) !=(p1.length:Int)) then
  some false
 else
  FR (cntM (gW p0 p1) p0.length 0 ()) λa=>
  aft some (λb=>
   some true) a
def kI (p0:VL) (p1:Int) (p2:VI) (a:Int) (f:Unit):LO Int Unit:=
 FR (idx p0 a) λc=>
 FR (bif (c.At==p1) then
 FR (idx p0 a) λd=>
 FR (jS d.Record p2) λe=>
 some e
 else
 some false) λb=>
 bif b then
  some (.inl a)
 else
  some (.inr (.inr ()))
def px (p0:VL) (p1:Int) (p2:VI):Option Int:=
 FR (cntM (kI p0 p1 p2) p0.length 0 ()) λa=>
 aft some (λb=>
  some ((-1):Int)) a
def jk (p0:VI) (d:Int) (c:VI) (a:Int):LO VI Int:=
 FR (bif decide (0<a) then
 FR (idx c (FW .i64 (a-1))) λe=>
 FR (idx p0 d) λf=>
 some (decide (f<e))
 else
 some false) λb=>
 bif b then
  some (.inr (.inr (FW .i64 (a-1))))
 else
  some (.inr (.inl a))
def ji (p0:VI) (c:Int) (a:VI):LO VI VI:=
 FR (ci (jk p0 c a) (2 ^ 64) ((a.length:Int):Int)) λd=>
 aft (λe=>some (.inl e)) (λb=>
  FR (subS a 0 b) λf=>
  FR (appS 8 ([]:VI) f) λg=>
  FR (idx p0 c) λi=>
  FR (appS 8 g ([i]:VI)) λj=>
  FR (subS a b (a.length:Int)) λk=>
  FR (appS 8 j k) λl=>
  some (.inr (.inr l))) d
def mc (p0:VI):Option VI:=
 FR (cntM (ji p0) p0.length 0 ([]:VI)) λa=>
 aft some (λb=>
  some b) a
def gY (p0:VP) (p1:VI) (p2:Int) (a:Int) (b:Int×Int):LO Int (Int×Int):=
 FR (idx p1 a) λe=>
 FR (idx p0 e) λf=>
 FR (mR f.Ask p2) λg=>
 FR (bif g then
  some a
 else
  some b.1) λc=>
 FR (idx p1 a) λi=>
 FR (idx p0 i) λj=>
 FR (mR j.Give p2) λk=>
 FR (bif k then
  some a
 else
  some b.2) λd=>
 some (.inr (.inr (c,d)))
def kP (p0:VP) (p1:VI) (p2:Int):Option Int:=
 FR (cntM (gY p0 p1 p2) p1.length 0 (((-1):Int),((-1):Int))) λc=>
 aft some (λa=>
  FR (bif decide (a.1<0) then
  some (decide (a.2<0))
  else
  some false) λb=>
  bif b then
   some (0:Int)
  else
   bif decide (a.2<a.1) then
    some (FW .i64 ((FW .i64 (2 * a.1))+1))
   else
    some (FW .i64 ((FW .i64 (2 * a.2))+2))) c
def fF  (b:Int) (a:VI):LO (Parity×VL×Bool) VI:=
 FR (appS 8 a ([b]:VI)) λc=>
 some (.inr (.inr c))
def ie (p0:Arena) (b:Place) (c:VI) (a:VL×VI×Int):LO (Parity×VL×Bool) (VL×VI×Int):=
 FR (idx p0.Next b.At) λm=>
 bif decide (a.2.2<(m.length:Int)) then
  FR (idx p0.Next b.At) λn=>
  FR (idx n a.2.2) λd=>
  FR (px a.1 d c) λe=>
  FR (bif decide (e<0) then
   bif decide (256<=(a.1.length:Int)) then
    some (.inl (((⟨(⟨([]:VI),([]:VV)⟩:Arena),([]:VI)⟩:Parity):Parity),([]:VL),false))
   else
    FR (appS 8 ([]:VI) c) λj=>
    FR (appS 32 a.1 ([(⟨d,j⟩:Place)]:VL)) λk=>
    some (.inr (k,((a.1.length:Int):Int)))
  else
   some (.inr (a.1,e)):Option ((Parity×VL×Bool)⊕(VL×Int))) λg=>
  aft (λi=>some (.inl i)) (λf=>
   FR (appS 8 a.2.1 ([f.2]:VI)) λl=>
   some (.inr (.inr (f.1,l,(FW .i64 (a.2.2+1)))))) g
 else
  some (.inr (.inl (a.1,a.2.1,a.2.2)))
def fG (p0:Arena) (p1:VP) (a:VL×Int×VI×VV×VI):LO (Parity×VL×Bool) (VL×Int×VI×VV×VI):=
 bif decide (a.2.1<(a.1.length:Int)) then
  FR (idx a.1 a.2.1) λb=>
  FR (kO p1 b.Record b.At) λm=>
  FR (ci (ie p0 b m) (2 ^ 64) (a.1,([]:VI),(0:Int))) λd=>
  aft (λe=>some (.inl e)) (λc=>
   FR (idx p0.Owner b.At) λf=>
   FR (appS 8 a.2.2.1 ([f]:VI)) λg=>
   FR (mc c.2.1) λi=>
   FR (appS 24 a.2.2.2.1 ([i]:VV)) λj=>
   FR (kP p1 b.Record b.At) λk=>
   FR (appS 8 a.2.2.2.2 ([k]:VI)) λl=>
   some (.inr (.inr (c.1,(FW .i64 (a.2.1+1)),g,j,l)))) d
 else
  some (.inr (.inl (a.1,a.2.1,a.2.2.1,a.2.2.2.1,a.2.2.2.2)))
def iv (p0:Arena) (p1:VP) (p2:Int):Option (Parity×VL×Bool):=
 FR (mP p0) λg=>
 FR (bif (!g) then
 some true
 else
 FR (mQ p1 (p0.Owner.length:Int)) λi=>
 some (!i)) λb=>
 FR (bif b then
 some true
 else
 FR (gz p2 0 (FW .i64 ((p0.Owner.length:Int)-1))) λj=>
 some (!j)) λc=>
 bif c then
  some (((⟨(⟨([]:VI),([]:VV)⟩:Arena),([]:VI)⟩:Parity):Parity),([]:VL),false)
 else
  FR (cntM fF p1.length 0 ([]:VI)) λd=>
  aft some (λf=>
   FR (ci (fG p0 p1) (2 ^ 64) ((([(⟨p2,f⟩:Place)]:VL):VL),(0:Int),([]:VI),([]:VV),([]:VI))) λe=>
   aft some (λa=>
    some (((⟨(⟨a.2.2.1,a.2.2.2.1⟩:Arena),a.2.2.2.2⟩:Parity):Parity),a.1,true)) e) d
def nv (p0:Int) (a:VI×Int):LO VI (VI×Int):=
 FR (bif decide (a.2<p0) then
 some (decide (p0<=256))
 else
 some false) λb=>
 bif b then
  FR (appS 8 a.1 ([a.2]:VI)) λc=>
  some (.inr (.inr (c,(FW .i64 (a.2+1)))))
 else
  some (.inr (.inl (a.1,a.2)))
def tg (p0:Int):Option VI:=
 FR (ci (nv p0) (2 ^ 64) (([]:VI),(0:Int))) λa=>
 aft some (λb=>
  some b.1) a
def qX (p0:Parity):Option VI:=
 FR (tg (p0.Prio.length:Int)) λa=>
 some a
def jR (p0:Parity) (a:Int) (d:Unit):LO Bool Unit:=
 FR (idx p0.Prio a) λb=>
 FR (gz b 0 40) λc=>
 bif (!c) then
  some (.inl false)
 else
  some (.inr (.inr ()))
def jz (p0:Parity):Option Bool:=
 FR (mP p0.Arena) λc=>
 FR (bif (!c) then
 some true
 else
 some ((p0.Prio.length:Int) !=(p0.Arena.Owner.length:Int))) λa=>
 bif a then
  some false
 else
  FR (cntM (jR p0) p0.Prio.length 0 ()) λb=>
  aft some (λd=>
   some true) b
def pD (p0:Parity) (b:Int) (a:Int×VV):LO l7Game (Int×VV):=
 FR (idx p0.Arena.Next b) λd=>
 bif decide (a.1<(d.length:Int)) then
  FR (idx p0.Arena.Next b) λe=>
  FR (idx e a.1) λc=>
  FR (idx a.2 c) λf=>
  FR (appS 8 f ([b]:VI)) λg=>
  FR (idx a.2 c) λj=>
  FR (setI a.2 c g) λi=>
  some (.inr (.inr ((FW .i64 (a.1+1)),i)))
 else
  some (.inr (.inl (a.1,a.2)))
def pC (p0:Parity) (b:Int) (a:VV×VI):LO l7Game (VV×VI):=
 FR (idx a.2 b) λg=>
 FR (setI a.2 b (-1)) λf=>
 FR (ci (pD p0 b) (2 ^ 64) ((0:Int),a.1)) λc=>
 aft (λd=>some (.inl d)) (λe=>
  some (.inr (.inr (e.2,f)))) c
def r6 (p0:Parity):Option (l7Game):=
 FR (mkS 24 (p0.Prio.length:Int) ([]:VI)) λa=>
 FR (mkS 8 (p0.Prio.length:Int) (0:Int)) λb=>
 FR (cntM (pC p0) p0.Prio.length 0 (((⟨p0.Arena.Owner,p0.Prio,p0.Arena.Next,a,b⟩:l7Game).prev:VV),((⟨p0.Arena.Owner,p0.Prio,p0.Arena.Next,a,b⟩:l7Game).pick:VI))) λd=>
 aft some (λc=>
  some ((⟨(⟨p0.Arena.Owner,p0.Prio,p0.Arena.Next,a,b⟩:l7Game).owner,(⟨p0.Arena.Owner,p0.Prio,p0.Arena.Next,a,b⟩:l7Game).prio,(⟨p0.Arena.Owner,p0.Prio,p0.Arena.Next,a,b⟩:l7Game).next,c.1,c.2⟩:l7Game):l7Game)) d
def mg (p1:VI) (c:Int) (a:VB):LO VB VB:=
 FR (idx p1 c) λb=>
 FR (idx a b) λe=>
 FR (setI a b true) λd=>
 some (.inr (.inr d))
def qY (p0:Int) (p1:VI):Option VB:=
 FR (mkS 1 p0 false) λc=>
 FR (cntM (mg p1) p1.length 0 c) λa=>
 aft some (λb=>
  some b) a
def oN (p0:l7Game) (p1:Int) (p2:Int):Option Bool:=
 FR (idx p0.pick p1) λb=>
 FR (bif decide (b<0) then
 some true
 else
 FR (idx p0.pick p1) λc=>
 some (c==p2)) λa=>
 some a
def jZ (p0:l7Game) (p1:VB) (p2:Int) (a:Int×Int):LO Int (Int×Int):=
 FR (idx p0.next p2) λe=>
 bif decide (a.2<(e.length:Int)) then
  FR (idx p0.next p2) λf=>
  FR (idx f a.2) λb=>
  FR (idx p1 b) λg=>
  FR (bif g then
  FR (oN p0 p2 b) λi=>
  some i
  else
  some false) λc=>
  FR (bif c then
   some (FW .i64 (a.1+1))
  else
   some a.1) λd=>
  some (.inr (.inr (d,(FW .i64 (a.2+1)))))
 else
  some (.inr (.inl (a.1,a.2)))
def jA (p0:l7Game) (p1:VB) (p2:Int):Option Int:=
 FR (ci (jZ p0 p1 p2) (2 ^ 64) ((0:Int),(0:Int))) λa=>
 aft some (λb=>
  some b.1) a
def nR (p0:l7Game) (p1:VB) (b:Int) (a:Int):LO Int Int:=
 FR (idx p1 b) λd=>
 FR (bif d then
  FR (idx p0.prio b) λe=>
  FR (kK a e) λf=>
  some f
 else
  some a) λc=>
 some (.inr (.inr c))
def tk (p0:l7Game) (p1:VB):Option Int:=
 FR (cntM (nR p0 p1) p1.length 0 ((-1):Int)) λa=>
 aft some (λb=>
  some b) a
def gC (p0:l7Game) (p1:VB) (d:VB) (a:Int) (b:VI×VB×VI):LO VB (VI×VB×VI):=
 FR (idx p1 a) λg=>
 FR (bif g then
  FR (jA p0 p1 a) λi=>
  FR (idx b.2.2 a) λo=>
  FR (setI b.2.2 a i) λm=>
  some m
 else
  some b.2.2) λf=>
 FR (idx p1 a) λj=>
 FR (bif j then
 FR (idx d a) λk=>
 some k
 else
 some false) λe=>
 FR (bif e then
  FR (idx b.2.1 a) λp=>
  FR (setI b.2.1 a true) λn=>
  FR (appS 8 b.1 ([a]:VI)) λl=>
  some (l,n)
 else
  some (b.1,b.2.1)) λc=>
 some (.inr (.inr (c.1,c.2,f)))
def eP (p0:l7Game) (p1:VB) (p2:Int) (c:Int) (a:VI×Int×VB×VI):LO VB (VI×Int×VB×VI):=
 FR (idx p0.prev c) λo=>
 bif decide (a.2.1<(o.length:Int)) then
  FR (idx p0.prev c) λp=>
  FR (idx p a.2.1) λb=>
  FR (idx p1 b) λq=>
  FR (bif (!q) then
  some true
  else
  FR (idx a.2.2.1 b) λr=>
  some r) λi=>
  FR (bif i then
  some true
  else
  FR (oN p0 b c) λj=>
  some (!j)) λf=>
  bif f then
   some (.inr (.inr (a.1,(FW .i64 (a.2.1+1)),a.2.2.1,a.2.2.2)))
  else
   FR (idx a.2.2.2 b) λk=>
   FR (idx a.2.2.2 b) λt=>
   FR (setI a.2.2.2 b (FW .i64 (k-1))) λe=>
   FR (idx p0.owner b) λl=>
   FR (bif (l==p2) then
   some true
   else
   FR (idx e b) λm=>
   some (m==0)) λg=>
   FR (bif g then
    FR (idx a.2.2.1 b) λu=>
    FR (setI a.2.2.1 b true) λs=>
    FR (appS 8 a.1 ([b]:VI)) λn=>
    some (n,s)
   else
    some (a.1,a.2.2.1)) λd=>
   some (.inr (.inr (d.1,(FW .i64 (a.2.1+1)),d.2,e)))
 else
  some (.inr (.inl (a.1,a.2.1,a.2.2.1,a.2.2.2)))
def jm (p0:l7Game) (p1:VB) (p2:Int) (a:VI×Int×VB×VI):LO VB (VI×Int×VB×VI):=
 bif decide (a.2.1<(a.1.length:Int)) then
  FR (idx a.1 a.2.1) λe=>
  FR (ci (eP p0 p1 p2 e) (2 ^ 64) (a.1,(0:Int),a.2.2.1,a.2.2.2)) λc=>
  aft (λd=>some (.inl d)) (λb=>
   some (.inr (.inr (b.1,(FW .i64 (a.2.1+1)),b.2.2.1,b.2.2.2)))) c
 else
  some (.inr (.inl (a.1,a.2.1,a.2.2.1,a.2.2.2)))
def j8 (p0:l7Game) (p1:VB) (p2:Int) (b:VB):Option VB:=
 FR (mkS 1 (p1.length:Int) false) λf=>
 FR (mkS 8 (p1.length:Int) (0:Int)) λg=>
 FR (cntM (gC p0 p1 b) p1.length 0 (([]:VI),f,g)) λc=>
 aft some (λa=>
  FR (ci (jm p0 p1 p2) (2 ^ 64) (a.1,(0:Int),a.2.1,a.2.2)) λd=>
  aft some (λe=>
   some e.2.2.1) d) c
def mf (p0:VB) (p1:VB) (a:Int) (b:VB):LO VB VB:=
 FR (idx p0 a) λd=>
 FR (bif d then
 FR (idx p1 a) λe=>
 some (!e)
 else
 some false) λc=>
 FR (idx b a) λg=>
 FR (setI b a c) λf=>
 some (.inr (.inr f))
def oO (p0:VB) (p1:VB):Option VB:=
 FR (mkS 1 (p0.length:Int) false) λc=>
 FR (cntM (mf p0 p1) p0.length 0 c) λa=>
 aft some (λb=>
  some b) a
def lB (p0:l7Game) (p1:VB) (d:Int) (a:Int) (b:VB):LO VB VB:=
 FR (idx p1 a) λe=>
 FR (bif e then
 FR (idx p0.prio a) λf=>
 some (f==d)
 else
 some false) λc=>
 FR (idx b a) λi=>
 FR (setI b a c) λg=>
 some (.inr (.inr g))
def jC (f:Int) (g:VB) (i:VB) (a:Int) (b:Bool×VB):LO VB (Bool×VB):=
 FR (idx g a) λj=>
 FR (bif j then
 FR (idx i a) λk=>
 some (k !=((F2 f 2)==0))
 else
 some false) λd=>
 FR (idx b.2 a) λm=>
 FR (setI b.2 a d) λc=>
 FR (bif b.1 then
 some true
 else
 FR (idx c a) λl=>
 some l) λe=>
 some (.inr (.inr (e,c)))
def lC (p1:VB) (e:Int) (a:Int) (b:VB):LO VB VB:=
 FR (idx p1 a) λd=>
 FR (bif d then
 some ((F2 e 2)==0)
 else
 some false) λc=>
 FR (idx b a) λg=>
 FR (setI b a c) λf=>
 some (.inr (.inr f))
def lD (j:Int) (e:VB) (f:VB) (a:Int) (b:VB):LO VB VB:=
 FR (idx f a) λg=>
 FR (bif g then
 some true
 else
 FR (idx e a) λi=>
 FR (bif i then
 some ((F2 j 2)==1)
 else
 some false) λc=>
 some c) λd=>
 FR (idx b a) λl=>
 FR (setI b a d) λk=>
 some (.inr (.inr k))
def jE (rc:l7Game->VB->Option VB) (p0:l7Game) (p1:VB):Option VB:=
 FR (tk p0 p1) λa=>
 FR (mkS 1 (p1.length:Int) false) λb=>
 bif decide (a<0) then
  some b
 else
  FR (mkS 1 (p1.length:Int) false) λp=>
  FR (cntM (lB p0 p1 a) p1.length 0 p) λg=>
  aft some (λl=>
   FR (j8 p0 p1 (F2 a 2) l) λq=>
   FR (oO p1 q) λe=>
   FR (rc p0 e) λr=>
   FR (mkS 1 (p1.length:Int) false) λs=>
   FR (cntM (jC a e r) p1.length 0 (false,s)) λi=>
   aft some (λc=>
    bif (!c.1) then
     FR (cntM (lC p1 a) p1.length 0 b) λj=>
     aft some (λm=>
      some m) j
    else
     FR (j8 p0 p1 (FW .i64 (1-(F2 a 2))) c.2) λd=>
     FR (oO p1 d) λn=>
     FR (rc p0 n) λo=>
     FR (cntM (lD a d o) p1.length 0 b) λf=>
     aft some (λk=>
      some k) f) i) g
def kM:Nat->l7Game->VB->Option VB
 |0=>λ_ _=>none
 |n+1=>jE (kM n)
def nF (p1:VI) (b:l7Game) (c:VB) (a:Int) (f:Unit):LO (VI×VI) Unit:=
 FR (idx p1 a) λd=>
 FR (jA b c d) λe=>
 bif (e==0) then
  some (.inl (([]:VI),([]:VI)))
 else
  some (.inr (.inr ()))
def nG (p1:VI) (d:VB) (b:Int) (a:VI×VI):LO (VI×VI) (VI×VI):=
 FR (idx p1 b) λe=>
 FR (idx d e) λf=>
 FR (bif f then
  FR (idx p1 b) λg=>
  FR (appS 8 a.1 ([g]:VI)) λi=>
  some (i,a.2)
 else
  FR (idx p1 b) λj=>
  FR (appS 8 a.2 ([j]:VI)) λk=>
  some (a.1,k)) λc=>
 some (.inr (.inr (c.1,c.2)))
def tj (p0:Parity) (p1:VI):Option (VI×VI):=
 FR (jz p0) λg=>
 FR (bif (!g) then
 some true
 else
 FR (l9 p1 (p0.Prio.length:Int)) λi=>
 some (!i)) λd=>
 bif d then
  some (([]:VI),([]:VI))
 else
  FR (r6 p0) λb=>
  FR (qY (p0.Prio.length:Int) p1) λc=>
  FR (cntM (nF p1 b c) p1.length 0 ()) λe=>
  aft some (λk=>
   FR (kM (2 ^ 64) b c) λj=>
   FR (cntM (nG p1 j) p1.length 0 (([]:VI),([]:VI))) λf=>
   aft some (λa=>
    some (a.1,a.2)) f) e
def oK (p0:Sig) (p1:Det) (p2:Int):Option Int:=
 FR (iG p0 p1) λb=>
 FR (iv b.1 b.2.1 p2) λa=>
 bif (!a.2.2) then
  some ((-1):Int)
 else
  FR (qX a.1) λc=>
  FR (tj a.1 c) λd=>
  FR (kJ d.1 0) λe=>
  FR (gx e) λf=>
  some (FW .i64 (1-f))
def ny (p0:Sig) (p1:Det):Option Int:=
 FR (nA p0 p1) λb=>
 bif (!b) then
  some ((-1):Int)
 else
  FR (oK p0 p1 0) λa=>
  some a
def d7 (p0:Sig) (p1:VC):Option Bool:=
 FR (cU p0 p1) λa=>
 FR (bif a.2 then
 FR (ny p0 a.1) λc=>
 some (c==0)
 else
 some false) λb=>
 some b
def fd (c:VC×Int×Int) (b:Int) (a:ByteArray):LO Bool (ByteArray):=
 FR (catB a (ByteArray.mk #[99,108,97,117,115,101,32])) λd=>
 FR (idx c.1 b) λe=>
 FR (gV e) λf=>
 FR (catB d f) λg=>
 FR (catB g (ByteArray.mk #[10])) λi=>
 some (.inr (.inr i))
def kg (p0:VI):Option Bool:=
 FR (zX p0) λn=>
 bif n then
  some true
 else
  FR (wo p0 617) λq=>
  FR (lT q 2) λa=>
  FR (cntM (fd a) a.1.length 0 ((ByteArray.mk #[]):ByteArray)) λl=>
  aft some (λm=>
   FR (catB m (ByteArray.mk #[119,105,110,115,10,109,97,99,104,105,110,101,10,99,104,101,99,107,115,10,99,111,117,110,116,101,114,10])) λr=>
   FR (sV r) λs=>
   FR (tb s) λb=>
   FR (bif ((b.length:Int) !=(FW .i64 ((a.1.length:Int)+4))) then
   some true
   else
   FR (bif decide (0<(a.1.length:Int)) then
   FR (idx b (FW .i64 ((a.1.length:Int)-1))) λt=>
   FR (j6 (a.1.length:Int)) λu=>
   some (!(eqB t u))
   else
   some false) λe=>
   some e) λf=>
   bif f then
    some false
   else
    FR (d7 (⟨1,1⟩:Sig) a.1) λv=>
    bif v then
     FR (idx b (a.1.length:Int)) λw=>
     FR (bif (eqB w (ByteArray.mk #[109,97,99,104,105,110,101])) then
     FR (idx b (FW .i64 ((a.1.length:Int)+1))) λx=>
     some (!(eqB x (ByteArray.mk #[45])))
     else
     some false) λg=>
     FR (bif g then
     FR (idx b (FW .i64 ((a.1.length:Int)+2))) λy=>
     some (eqB y (ByteArray.mk #[121]))
     else
     some false) λi=>
     FR (bif i then
     FR (idx b (FW .i64 ((a.1.length:Int)+3))) λz=>
     some (eqB z (ByteArray.mk #[45]))
     else
     some false) λj=>
     some j
    else
     FR (idx b (a.1.length:Int)) λA=>
     FR (bif (eqB A (ByteArray.mk #[119,111,114,108,100])) then
     FR (idx b (FW .i64 ((a.1.length:Int)+1))) λB=>
     some (eqB B (ByteArray.mk #[45]))
     else
     some false) λk=>
     FR (bif k then
     FR (idx b (FW .i64 ((a.1.length:Int)+2))) λo=>
     some (eqB o (ByteArray.mk #[45]))
     else
     some false) λc=>
     FR (bif c then
     FR (idx b (FW .i64 ((a.1.length:Int)+3))) λp=>
     some (!(eqB p (ByteArray.mk #[45])))
     else
     some false) λd=>
     some d) l
end Go.Proofs.YtldlmopdhmaceaaGreatDoor
