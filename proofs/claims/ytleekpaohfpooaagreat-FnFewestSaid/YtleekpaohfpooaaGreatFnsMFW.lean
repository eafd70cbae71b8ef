/- The functions on data. By program. -/
import Derived.Test.YtleekpaohfpooaaGreatTypesFW
import Derived.Test.YtleekpaohfpooaaGreatCmpFW
import Derived.Test.YtleekpaohfpooaaGreatCompFW
set_option linter.unusedVariables false
set_option linter.unusedSimpArgs false
open Option renaming bind → bH
open Int renaming toNat → n6
namespace Go.Proofs.YtleekpaohfpooaaGreat
open Go Go.Wk Go.Proofs
set_option maxRecDepth 100000
set_option maxHeartbeats 1000000
def uW (p0:(List Int)):Option (Bool):=
 some (decide (4096<(p0.length:Int)):Bool)
def kW (p0:(List Int)) (a:Int) (s1:Int):Option (dice⊕((Int)⊕(Int))):=
 bH (idx p0 a) λb=>
 some (.inr (.inr ((IntKind.u64.wrap ((IntKind.u64.wrap ((IntKind.u64.wrap (s1 * 1099511628211))+(IntKind.u64.wrap b)))+3)):Int)))
def pC (p0:(List Int)) (p1:Int):Option (dice):=
 bH (cntM (kW p0) p0.length 0 ((IntKind.u64.wrap ((IntKind.u64.wrap (p1 * 7919))+(IntKind.u64.wrap (p0.length:Int)))):Int)) λa=>
 aft (λr=>some r) (λb=>
  some ((⟨p0,0,b⟩:dice):dice)) a
def dT (p0:dice) (p1:Int):Option (Int×Int×Int):=
 bH (bif decide (p0.i<(p0.b.length:Int)) then
  bH (idx p0.b p0.i) λb=>
  some (((IntKind.i64.wrap ((IntKind.i64.wrap (IntKind.u64.wrap (BitVec.toNat (BitVec.ofInt (IntKind.bits IntKind.u64) (Int.fdiv (IntKind.u64.wrap ((IntKind.u64.wrap (p0.h * 6364136223846793005))+1442695040888963407)) (2 ^ (min (n6 33) (IntKind.bits IntKind.u64)))) &&& BitVec.ofInt (IntKind.bits IntKind.u64) 16777215))))+(IntKind.i64.wrap b))):Int),((IntKind.i64.wrap (p0.i+1)):Int))
 else
  some (((IntKind.i64.wrap (IntKind.u64.wrap (BitVec.toNat (BitVec.ofInt (IntKind.bits IntKind.u64) (Int.fdiv (IntKind.u64.wrap ((IntKind.u64.wrap (p0.h * 6364136223846793005))+1442695040888963407)) (2 ^ (min (n6 33) (IntKind.bits IntKind.u64)))) &&& BitVec.ofInt (IntKind.bits IntKind.u64) 16777215)))):Int),p0.i)) λa=>
 bH (nz p1) λ_z55=>
 some (((Int.tmod a.1 p1):Int),a.2,((IntKind.u64.wrap ((IntKind.u64.wrap (p0.h * 6364136223846793005))+1442695040888963407)):Int))
def ft (p0:dice) (b:Int×Int×Int) (e:Int) (a:Int×Int×(List Int)×(List Int)):Option (((List Clause)×Int×Int)⊕((Int×Int×(List Int)×(List Int))⊕(Int×Int×(List Int)×(List Int)))):=
 bH (dT (⟨p0.b,a.1,a.2.1⟩:dice) 2) λc=>
 bH (bif (c.1==0) then
  bH (appS 8 a.2.2.1 ([e]:List Int)) λl=>
  some (l:(List Int))
 else
  some (a.2.2.1:(List Int))) λj=>
 bH (dT (⟨p0.b,c.2.1,c.2.2⟩:dice) 2) λd=>
 bH (bif (d.1==0) then
 bH (bif ((IntKind.i64.wrap (1+b.1))==2) then
 some true
 else
 some ((IntKind.i64.wrap (1+b.1))==3)) λf=>
 bH (bif f then
 some true
 else
 some ((IntKind.i64.wrap (1+b.1))==7)) λg=>
 some g
 else
 some false) λi=>
 bH (bif i then
  bH (appS 8 a.2.2.2 ([e]:List Int)) λm=>
  some (m:(List Int))
 else
  some (a.2.2.2:(List Int))) λk=>
 some (.inr (.inr (d.2.1,d.2.2,j,k)))
def fq (p0:dice) (s1:(List Clause)×Int×Int×Int):Option (((List Clause)×Int×Int)⊕(((List Clause)×Int×Int×Int)⊕((List Clause)×Int×Int×Int))):=
 bif decide (0<s1.2.1) then
  bH (dT (⟨p0.b,s1.2.2.1,s1.2.2.2⟩:dice) 7) λb=>
  bH (cntM (ft p0 b) (n6 (4-0)) 0 (b.2.1,b.2.2,(([]:List Int):(List Int)),(([]:List Int):(List Int)))) λc=>
  aft (λr=>some (.inl r)) (λa=>
   bH (appS 56 s1.1 ([(⟨(IntKind.i64.wrap (1+b.1)),a.2.2.1,a.2.2.2⟩:Clause)]:List Clause)) λd=>
   some (.inr (.inr (d,((IntKind.i64.wrap (s1.2.1-1)):Int),a.1,a.2.1)))) c
 else
  some (.inr (.inl (s1.1,s1.2.1,s1.2.2.1,s1.2.2.2)))
def jq (p0:dice) (p1:Int):Option ((List Clause)×Int×Int):=
 bH (dT p0 (IntKind.i64.wrap (p1+1))) λb=>
 bH (bU (fq p0) (2 ^ 64) ((([]:List Clause):(List Clause)),b.1,b.2.1,b.2.2)) λc=>
 aft (λr=>some r) (λa=>
  some (a.1,a.2.2.1,a.2.2.2)) c
def eE (p0:Sig):Option (Int):=
 bH (nn (IntKind.i64.wrap (p0.In+p0.Out))) λ_z8=>
 some ((IntKind.i64.wrap (1 * 2 ^ (min (n6 (IntKind.i64.wrap (p0.In+p0.Out))) (IntKind.bits IntKind.i64)))):Int)
def j4 (p0:(List Int)) (p1:Int) (a:Int) (s1:Unit):Option (Bool⊕((Unit)⊕(Unit))):=
 bH (idx p0 a) λb=>
 bH (bif decide (b<0) then
 some true
 else
 some (decide (p1<=b))) λc=>
 bH (bif c then
 some true
 else
 bH (bif decide (0<a) then
 bH (idx p0 (IntKind.i64.wrap (a-1))) λf=>
 some (decide (b<=f))
 else
 some false) λd=>
 some d) λe=>
 bif e then
  some (.inl (false:Bool))
 else
  some (.inr (.inr ()))
def mH (p0:(List Int)) (p1:Int):Option (Bool):=
 bH (cntM (j4 p0 p1) p0.length 0 ()) λa=>
 aft (λr=>some r) (λb=>
  some (true:Bool)) a
def kC (p0:Int):Option (Bool):=
 bH (bif (p0==2) then
 some true
 else
 some (p0==3)) λb=>
 bH (bif b then
 some true
 else
 some (p0==7)) λa=>
 some (a:Bool)
def jZ (p0:Sig) (p1:Clause):Option (Bool):=
 bH (bif decide (p1.Kind<1) then
 some true
 else
 some (decide (7<p1.Kind))) λa=>
 bH (bif a then
 some true
 else
 bH (eE p0) λe=>
 bH (mH p1.A e) λf=>
 some (!f)) λb=>
 bH (bif b then
 some true
 else
 bH (eE p0) λg=>
 bH (mH p1.B g) λi=>
 some (!i)) λc=>
 bif c then
  some (false:Bool)
 else
  bH (kC p1.Kind) λj=>
  bH (bif j then
  some true
  else
  some ((p1.B.length:Int)==0)) λd=>
  some (d:Bool)
def ec (p0:Clause) (c0:Sig):Option (Bool):=
 bH (jZ c0 p0) λa=>
 some ((!a):Bool)
def cg (p0:(List Clause)) (c1_0:Sig) (a:Int) (s1:Unit):Option (Int⊕((Unit)⊕(Unit))):=
 bH (idx p0 a) λb=>
 bH (ec b c1_0) λc=>
 bif c then
  some (.inl (a:Int))
 else
  some (.inr (.inr ()))
def ci (p0:(List Clause)) (c1_0:Sig):Option (Int):=
 bH (cntM (cg p0 c1_0) p0.length 0 ()) λa=>
 aft (λr=>some r) (λb=>
  some ((-1):Int)) a
def cd (p0:(List Clause)) (c1_0:Sig):Option (Bool):=
 bH (ci p0 c1_0) λa=>
 some (decide (0<=a):Bool)
def eI (p0:Sig) (p1:(List Clause)):Option (Bool):=
 bH (bif decide ((p1.length:Int)<=3) then
 bH (cd p1 p0) λb=>
 some (!b)
 else
 some false) λa=>
 some (a:Bool)
def j8 (s1:Int×Int×(List (List Int))×(List (List Int))) (a:Int×Int×(List (List Int))):Option (Machine⊕((Int×Int×(List (List Int)))⊕(Int×Int×(List (List Int))))):=
 bif decide (0<=a.2.1) then
  bH (idx a.2.2 s1.2.1) λb=>
  bH (idx b a.2.1) λe=>
  bH (setI b a.2.1 (Int.tmod a.1 2)) λc=>
  bH (setI a.2.2 s1.2.1 c) λd=>
  some (.inr (.inr (((IntKind.i64.wrap (Int.tdiv a.1 2)):Int),((IntKind.i64.wrap (a.2.1-1)):Int),d)))
 else
  some (.inr (.inl (a.1,a.2.1,a.2.2)))
def j9 (p1:Int) (s1:Int×Int×(List (List Int))×(List (List Int))) (a:Int×Int×(List (List Int))):Option (Machine⊕((Int×Int×(List (List Int)))⊕(Int×Int×(List (List Int))))):=
 bif decide (0<=a.2.1) then
  bH (nz p1) λ_z57=>
  bH (idx a.2.2 s1.2.1) λb=>
  bH (idx b a.2.1) λe=>
  bH (setI b a.2.1 (Int.tmod a.1 p1)) λc=>
  bH (setI a.2.2 s1.2.1 c) λd=>
  bH (nz p1) λ_z61=>
  some (.inr (.inr (((IntKind.i64.wrap (Int.tdiv a.1 p1)):Int),((IntKind.i64.wrap (a.2.1-1)):Int),d)))
 else
  some (.inr (.inl (a.1,a.2.1,a.2.2)))
def j7 (p1:Int) (s1:Int×Int×(List (List Int))×(List (List Int))):Option (Machine⊕((Int×Int×(List (List Int))×(List (List Int)))⊕(Int×Int×(List (List Int))×(List (List Int))))):=
 bif decide (0<=s1.2.1) then
  bH (mkS 8 2 (0:Int)) λe=>
  bH (idx s1.2.2.1 s1.2.1) λj=>
  bH (mkS 8 2 (0:Int)) λf=>
  bH (setI s1.2.2.1 s1.2.1 (e:(List Int))) λg=>
  bH (idx s1.2.2.2 s1.2.1) λk=>
  bH (setI s1.2.2.2 s1.2.1 (f:(List Int))) λi=>
  bH (bU (j8 s1) (2 ^ 64) (s1.1,(1:Int),i)) λc=>
  aft (λr=>some (.inl r)) (λa=>
   bH (bU (j9 p1 s1) (2 ^ 64) (a.1,(1:Int),g)) λd=>
   aft (λr=>some (.inl r)) (λb=>
    some (.inr (.inr (b.1,((IntKind.i64.wrap (s1.2.1-1)):Int),b.2.2,a.2.2)))) d) c
 else
  some (.inr (.inl (s1.1,s1.2.1,s1.2.2.1,s1.2.2.2)))
def gY (p0:Int) (p1:Int):Option (Machine):=
 bH (mkS 24 p1 (([]:List Int):(List Int))) λb=>
 bH (mkS 24 p1 (([]:List Int):(List Int))) λc=>
 bH (bU (j7 p1) (2 ^ 64) (p0,((IntKind.i64.wrap (p1-1)):Int),((⟨b,c⟩:Machine).Next:(List (List Int))),((⟨b,c⟩:Machine).Out:(List (List Int))))) λd=>
 aft (λr=>some r) (λa=>
  some ((⟨a.2.2.1,a.2.2.2⟩:Machine):Machine)) d
def lJ (p0:Sig):Option (Bool):=
 bH (bif decide (1<=p0.In) then
 some (decide (p0.In<=2))
 else
 some false) λa=>
 bH (bif a then
 some (decide (1<=p0.Out))
 else
 some false) λb=>
 bH (bif b then
 some (decide (p0.Out<=2))
 else
 some false) λc=>
 some (c:Bool)
def iX (p0:Sig):Option (Int):=
 bH (nn p0.In) λ_z5=>
 some ((IntKind.i64.wrap (1 * 2 ^ (min (n6 p0.In) (IntKind.bits IntKind.i64)))):Int)
def ed (p0:Int) (c0:Int):Option (Bool):=
 bH (bif decide (p0<0) then
 some true
 else
 some (decide (c0<=p0))) λa=>
 some (a:Bool)
def cr (p0:(List Int)) (c1_0:Int) (a:Int) (s1:Unit):Option (Int⊕((Unit)⊕(Unit))):=
 bH (idx p0 a) λb=>
 bH (ed b c1_0) λc=>
 bif c then
  some (.inl (a:Int))
 else
  some (.inr (.inr ()))
def cw (p0:(List Int)) (c1_0:Int):Option (Int):=
 bH (cntM (cr p0 c1_0) p0.length 0 ()) λa=>
 aft (λr=>some r) (λb=>
  some ((-1):Int)) a
def cq (p0:(List Int)) (c1_0:Int):Option (Bool):=
 bH (cw p0 c1_0) λa=>
 some (decide (0<=a):Bool)
def fX (p0:(List Int)) (p1:Int):Option (Bool):=
 bH (cq p0 p1) λa=>
 some ((!a):Bool)
def fj (p0:Sig) (p1:Machine) (a:Int) (s1:Unit):Option (Bool⊕((Unit)⊕(Unit))):=
 bH (idx p1.Next a) λb=>
 bH (iX p0) λf=>
 bH (bif ((b.length:Int) !=f) then
 some true
 else
 bH (idx p1.Out a) λg=>
 some ((g.length:Int) !=(b.length:Int))) λc=>
 bH (bif c then
 some true
 else
 bH (fX b (p1.Next.length:Int)) λi=>
 some (!i)) λd=>
 bH (bif d then
 some true
 else
 bH (idx p1.Out a) λj=>
 bH (nn p0.Out) λ_z64=>
 bH (fX j (IntKind.i64.wrap (1 * 2 ^ (min (n6 p0.Out) (IntKind.bits IntKind.i64))))) λk=>
 some (!k)) λe=>
 bif e then
  some (.inl (false:Bool))
 else
  some (.inr (.inr ()))
def gW (p0:Sig) (p1:Machine):Option (Bool):=
 bH (bif decide ((p1.Next.length:Int)<1) then
 some true
 else
 some (decide (48<(p1.Next.length:Int)))) λa=>
 bH (bif a then
 some true
 else
 some ((p1.Out.length:Int) !=(p1.Next.length:Int))) λb=>
 bif b then
  some (false:Bool)
 else
  bH (cntM (fj p0 p1) p1.Next.length 0 ()) λc=>
  aft (λr=>some r) (λd=>
   some (true:Bool)) c
def cW (p0:(List Int)) (p1:Int) (a:Int) (s1:Unit):Option (Int⊕((Unit)⊕(Unit))):=
 bH (idx p0 a) λb=>
 bif (p1==b) then
  some (.inl (a:Int))
 else
  some (.inr (.inr ()))
def cM (p0:(List Int)) (p1:Int):Option (Int):=
 bH (cntM (cW p0 p1) p0.length 0 ()) λa=>
 aft (λr=>some r) (λb=>
  some ((-1):Int)) a
def cc (p0:(List Int)) (p1:Int):Option (Bool):=
 bH (cM p0 p1) λa=>
 some (decide (0<=a):Bool)
def gj (p0:Int) (p1:Int) (p2:Bool) (c:Bool):Option (Int):=
 bH (bif p2 then
  some (1:Int)
 else
  some (0:Int)) λa=>
 bH (bif c then
  some (true,(1:Int))
 else
  some (false,(0:Int))) λb=>
 bif (p0==1) then
  some ((if p1<(IntKind.i64.wrap (1-a)) then(IntKind.i64.wrap (1-a)) else p1):Int)
 else
  bif (p0==2) then
   bH (bif (p1==2) then
   some true
   else
   bH (bif (p1==1) then
   some (!b.1)
   else
   some false) λd=>
   some d) λe=>
   bif e then
    some (2:Int)
   else
    some (a:Int)
  else
   bif (p0==3) then
    bif b.1 then
     some (0:Int)
    else
     some ((if p1<a then a else p1):Int)
   else
    bif (p0==4) then
     some (a:Int)
    else
     bif (p0==5) then
      some ((IntKind.i64.wrap (1-a)):Int)
     else
      bif (p0==6) then
       some ((if p1<a then a else p1):Int)
      else
       some ((IntKind.i64.wrap ((IntKind.i64.wrap (2 * a))+b.2)):Int)
def eh (p1:Clause) (c:Int) (a:Int) (b:(List Int)):Option (Det⊕(((List Int))⊕((List Int)))):=
 bH (cc p1.A a) λd=>
 bH (cc p1.B a) λe=>
 bH (gj p1.Kind c d e) λf=>
 bH (appS 8 b ([f]:List Int)) λg=>
 some (.inr (.inr (g:(List Int))))
def ef (p0:Sig) (p1:Clause) (e:Int) (d:(List (List Int))):Option (Det⊕(((List (List Int)))⊕((List (List Int))))):=
 bH (eE p0) λa=>
 bH (rng a) λ_=>
 bH (cntM (eh p1 e) (n6 (a-0)) 0 (([]:List Int):(List Int))) λb=>
 aft (λr=>some (.inl r)) (λc=>
  bH (appS 24 d ([c]:List (List Int))) λf=>
  some (.inr (.inr (f:(List (List Int)))))) b
def jp (p0:Sig) (p1:Clause):Option (Det):=
 bH (bif (p1.Kind==1) then
  some (true:Bool)
 else
  some ((p1.Kind==5):Bool)) λf=>
 bH (bif f then
  some ((2:Int),(([1]:List Int):(List Int)),(([]:List Int):(List Int)))
 else
  bH (bif (p1.Kind==2) then
   some ((3:Int),(([2]:List Int):(List Int)),(([]:List Int):(List Int)))
  else
   bH (bif (p1.Kind==3) then
    some ((2:Int),(([1]:List Int):(List Int)),(([0]:List Int):(List Int)))
   else
    bH (bif (p1.Kind==4) then
     some ((2:Int),(([0,1]:List Int):(List Int)),(([1]:List Int):(List Int)))
    else
     bH (bif (p1.Kind==6) then
      some ((2:Int),(([0]:List Int):(List Int)),(([]:List Int):(List Int)))
     else
      some ((4:Int),(([2,3]:List Int):(List Int)),(([1,3]:List Int):(List Int)))) λe=>
     some (e.1,e.2.1,e.2.2)) λd=>
    some (d.1,d.2.1,d.2.2)) λc=>
   some (c.1,c.2.1,c.2.2)) λb=>
  some (b.1,b.2.1,b.2.2)) λa=>
 bH (rng a.1) λ_=>
 bH (cntM (ef p0 p1) (n6 (a.1-0)) 0 (([]:List (List Int)):(List (List Int)))) λg=>
 aft (λr=>some r) (λi=>
  some ((⟨i,([(⟨a.2.1,a.2.2⟩:Pair)]:List Pair)⟩:Det):Det)) g
def cG (p0:(List (Int×Int))) (p1:(Int×Int)) (a:Int) (s1:Unit):Option (Int⊕((Unit)⊕(Unit))):=
 bH (idx p0 a) λb=>
 bif ((p1.1==b.1)&&(p1.2==b.2)) then
  some (.inl (a:Int))
 else
  some (.inr (.inr ()))
def cI (p0:(List (Int×Int))) (p1:(Int×Int)):Option (Int):=
 bH (cntM (cG p0 p1) p0.length 0 ()) λa=>
 aft (λr=>some r) (λb=>
  some ((-1):Int)) a
def ee (p1:Det) (s1:(List (Int×Int))×Int×(List (List Int))) (x47:(List Int)) (c:Int) (a:(List (Int×Int))×(List Int)):Option ((Det×Bool)⊕(((List (Int×Int))×(List Int))⊕((List (Int×Int))×(List Int)))):=
 bH (idx x47 c) λd=>
 bH (idx a.1 s1.2.1) λg=>
 bH (idx p1.Next g.2) λi=>
 bH (idx i c) λe=>
 bH (cI a.1 (d,e)) λf=>
 bH (bif decide (f<0) then
  bH (appS 16 a.1 ([(d,e)]:List (Int×Int))) λj=>
  some (j,((a.1.length:Int):Int))
 else
  some (a.1,f)) λb=>
 bH (appS 8 a.2 ([b.2]:List Int)) λk=>
 some (.inr (.inr (b.1,k)))
def fk (p0:Det) (p1:Det) (s1:(List (Int×Int))×Int×(List (List Int))):Option ((Det×Bool)⊕(((List (Int×Int))×Int×(List (List Int)))⊕((List (Int×Int))×Int×(List (List Int))))):=
 bif decide (s1.2.1<(s1.1.length:Int)) then
  bH (idx s1.1 s1.2.1) λd=>
  bH (idx p0.Next d.1) λb=>
  bH (cntM (ee p1 s1 b) b.length 0 (s1.1,(([]:List Int):(List Int)))) λc=>
  aft (λr=>some (.inl r)) (λa=>
   bif decide (48<(a.1.length:Int)) then
    some (.inl (((⟨([]:List (List Int)),([]:List Pair)⟩:Det):Det),false))
   else
    bH (appS 24 s1.2.2 ([a.2]:List (List Int))) λe=>
    some (.inr (.inr (a.1,((IntKind.i64.wrap (s1.2.1+1)):Int),e)))) c
 else
  some (.inr (.inl (s1.1,s1.2.1,s1.2.2)))
def fl (i:(List (Int×Int))×Int×(List (List Int))) (d:Int) (e:Pair) (c:Int) (a:(List Int)×(List Int)):Option ((Det×Bool)⊕(((List Int)×(List Int))⊕((List Int)×(List Int)))):=
 bH (idx i.1 c) λb=>
 bH (idx ([b.1,b.2]:List Int) d) λj=>
 bH (cc e.Ask j) λk=>
 bH (bif k then
  bH (appS 8 a.1 ([c]:List Int)) λl=>
  some (l:(List Int))
 else
  some (a.1:(List Int))) λf=>
 bH (idx ([b.1,b.2]:List Int) d) λm=>
 bH (cc e.Give m) λn=>
 bH (bif n then
  bH (appS 8 a.2 ([c]:List Int)) λo=>
  some (o:(List Int))
 else
  some (a.2:(List Int))) λg=>
 some (.inr (.inr (f,g)))
def dm (b:(List (Int×Int))×Int×(List (List Int))) (f:Int) (g:Det) (e:Int) (d:(List Pair)):Option ((Det×Bool)⊕(((List Pair))⊕((List Pair)))):=
 bH (idx g.Pairs e) λi=>
 bH (cntM (fl b f i) b.1.length 0 ((([]:List Int):(List Int)),(([]:List Int):(List Int)))) λc=>
 aft (λr=>some (.inl r)) (λa=>
  bH (appS 48 d ([(⟨a.1,a.2⟩:Pair)]:List Pair)) λj=>
  some (.inr (.inr (j:(List Pair))))) c
def cS (p0:Det) (p1:Det) (e:(List (Int×Int))×Int×(List (List Int))) (a:Int) (f:(List Pair)):Option ((Det×Bool)⊕(((List Pair))⊕((List Pair)))):=
 bH (idx ([p0,p1]:List Det) a) λb=>
 bH (cntM (dm e a b) b.Pairs.length 0 (f:(List Pair))) λc=>
 aft (λr=>some (.inl r)) (λd=>
  some (.inr (.inr (d:(List Pair))))) c
def gX (p0:Det) (p1:Det):Option (Det×Bool):=
 bif decide (4<(IntKind.i64.wrap ((p0.Pairs.length:Int)+(p1.Pairs.length:Int)))) then
  some (((⟨([]:List (List Int)),([]:List Pair)⟩:Det):Det),false)
 else
  bH (bU (fk p0 p1) (2 ^ 64) ((([(0,0)]:List (Int×Int)):(List (Int×Int))),(0:Int),(([]:List (List Int)):(List (List Int))))) λb=>
  aft (λr=>some r) (λa=>
   bH (cntM (cS p0 p1 a) ([p0,p1]:List Det).length 0 (([]:List Pair):(List Pair))) λc=>
   aft (λr=>some r) (λd=>
    some (((⟨a.2.2,d⟩:Det):Det),true)) c) b
def d9 (p0:Sig) (p1:(List Clause)) (b:Int) (s1:(List (List Int))×(List Pair)):Option ((Det×Bool)⊕(((List (List Int))×(List Pair))⊕((List (List Int))×(List Pair)))):=
 bH (idx p1 b) λc=>
 bH (jp p0 c) λd=>
 bH (gX (⟨s1.1,s1.2⟩:Det) d) λa=>
 bif (!a.2) then
  some (.inl (((⟨([]:List (List Int)),([]:List Pair)⟩:Det):Det),false))
 else
  some (.inr (.inr (a.1.Next,a.1.Pairs)))
def gV (p0:Sig) (p1:(List Clause)):Option (Det×Bool):=
 bH (lJ p0) λd=>
 bH (bif (!d) then
 some true
 else
 bH (eI p0 p1) λe=>
 some (!e)) λb=>
 bif b then
  some (((⟨([]:List (List Int)),([]:List Pair)⟩:Det):Det),false)
 else
  bH (eE p0) λf=>
  bH (mkS 8 f (0:Int)) λg=>
  bH (cntM (d9 p0 p1) p1.length 0 ((([g]:List (List Int)):(List (List Int))),(([]:List Pair):(List Pair)))) λc=>
  aft (λr=>some r) (λa=>
   some (((⟨a.1,a.2⟩:Det):Det),true)) c
def ga (p0:Sig) (p1:Machine) (p2:Det) (x42:(Int×Int)) (x47:(Int×Int)) (m:(List Int)) (b:Int) (a:(List (Int×Int))×(List Int)×(List Int)×(List ((Int×Int)×Int))):Option (((Option watch)×Bool)⊕(((List (Int×Int))×(List Int)×(List Int)×(List ((Int×Int)×Int)))⊕((List (Int×Int))×(List Int)×(List Int)×(List ((Int×Int)×Int))))):=
 bH (idx m b) λd=>
 bH (idx p1.Out x42.1) λn=>
 bH (idx n b) λf=>
 bH (iX p0) λg=>
 bH (idx p2.Next x47.2) λo=>
 bH (idx o (IntKind.i64.wrap ((IntKind.i64.wrap (f * g))+b))) λe=>
 bH (mget kwI2 a.2.2.2 ((d,e):(Int×Int)) (0:Int)) λi=>
 bH (bif (!i.2) then
  bH (mset kwI2 a.2.2.2 ((d,e):(Int×Int)) (a.1.length:Int)) λp=>
  bH (appS 16 a.1 ([(d,e)]:List (Int×Int))) λj=>
  some (j,((a.1.length:Int):Int),p)
 else
  some (a.1,i.1,a.2.2.2)) λc=>
 bH (appS 8 a.2.1 ([c.2.1]:List Int)) λk=>
 bH (appS 8 a.2.2.1 ([(IntKind.i64.wrap ((IntKind.i64.wrap (f * g))+b))]:List Int)) λl=>
 some (.inr (.inr (c.1,k,l,c.2.2)))
def fZ (p0:Sig) (p1:Machine) (p2:Det) (s1:(List (Int×Int))×Int×(List (List Int))×(List (List Int))×(List ((Int×Int)×Int))):Option (((Option watch)×Bool)⊕(((List (Int×Int))×Int×(List (List Int))×(List (List Int))×(List ((Int×Int)×Int)))⊕((List (Int×Int))×Int×(List (List Int))×(List (List Int))×(List ((Int×Int)×Int))))):=
 bif decide (s1.2.1<(s1.1.length:Int)) then
  bH (idx s1.1 s1.2.1) λb=>
  bH (idx s1.1 s1.2.1) λg=>
  bH (idx p1.Next b.1) λc=>
  bH (cntM (ga p0 p1 p2 b g c) c.length 0 (s1.1,(([]:List Int):(List Int)),(([]:List Int):(List Int)),s1.2.2.2.2)) λd=>
  aft (λr=>some (.inl r)) (λa=>
   bif decide (256<(a.1.length:Int)) then
    some (.inl ((none:Option watch),false))
   else
    bH (appS 24 s1.2.2.1 ([a.2.1]:List (List Int))) λe=>
    bH (appS 24 s1.2.2.2.1 ([a.2.2.1]:List (List Int))) λf=>
    some (.inr (.inr (a.1,((IntKind.i64.wrap (s1.2.1+1)):Int),e,f,a.2.2.2)))) d
 else
  some (.inr (.inl (s1.1,s1.2.1,s1.2.2.1,s1.2.2.2.1,s1.2.2.2.2)))
def gf (g:(List (Int×Int))×Int×(List (List Int))×(List (List Int))×(List ((Int×Int)×Int))) (c:Pair) (b:Int) (a:(List Int)×(List Int)):Option (((Option watch)×Bool)⊕(((List Int)×(List Int))⊕((List Int)×(List Int)))):=
 bH (idx g.1 b) λd=>
 bH (cc c.Ask d.2) λi=>
 bH (bif i then
  bH (appS 8 a.1 ([b]:List Int)) λj=>
  some (j:(List Int))
 else
  some (a.1:(List Int))) λe=>
 bH (cc c.Give d.2) λk=>
 bH (bif k then
  bH (appS 8 a.2 ([b]:List Int)) λl=>
  some (l:(List Int))
 else
  some (a.2:(List Int))) λf=>
 some (.inr (.inr (e,f)))
def gc (p2:Det) (b:(List (Int×Int))×Int×(List (List Int))×(List (List Int))×(List ((Int×Int)×Int))) (e:Int) (d:(List Pair)):Option (((Option watch)×Bool)⊕(((List Pair))⊕((List Pair)))):=
 bH (idx p2.Pairs e) λf=>
 bH (cntM (gf b f) b.1.length 0 ((([]:List Int):(List Int)),(([]:List Int):(List Int)))) λc=>
 aft (λr=>some (.inl r)) (λa=>
  bH (appS 48 d ([(⟨a.1,a.2⟩:Pair)]:List Pair)) λg=>
  some (.inr (.inr (g:(List Pair))))) c
def jQ (p0:Sig) (p1:Machine) (p2:Det):Option ((Option watch)×Bool):=
 bH (mset kwI2 ([]:List ((Int×Int)×Int)) ((0,0):(Int×Int)) 0) λe=>
 bH (bU (fZ p0 p1 p2) (2 ^ 64) ((([(0,0)]:List (Int×Int)):(List (Int×Int))),(0:Int),(([]:List (List Int)):(List (List Int))),(([]:List (List Int)):(List (List Int))),e)) λb=>
 aft (λr=>some r) (λa=>
  bH (cntM (gc p2 a) p2.Pairs.length 0 (([]:List Pair):(List Pair))) λc=>
  aft (λr=>some r) (λd=>
   some ((some (((⟨a.2.2.1,a.2.2.2.1,d⟩:watch):watch)):Option watch),true)) c) b
def gL (p0:Sig) (p1:Machine) (p2:(List Clause)):Option ((Option watch)×Bool):=
 bH (lJ p0) λd=>
 bH (bif (!d) then
 some true
 else
 bH (gW p0 p1) λe=>
 some (!e)) λc=>
 bif c then
  some ((none:Option watch),false)
 else
  bH (gV p0 p2) λa=>
  bif (!a.2) then
   some ((none:Option watch),false)
  else
   bH (jQ p0 p1 a.1) λb=>
   some ((b.1:Option watch),b.2)
def dL (p1:(List Int)) (a:Int) (s1:(List Bool)):Option ((List Bool)⊕(((List Bool))⊕((List Bool)))):=
 bH (cc p1 a) λb=>
 bH (idx s1 a) λd=>
 bH (setI s1 a (!b)) λc=>
 some (.inr (.inr (c:(List Bool))))
def eO (p0:watch) (p1:(List Int)):Option ((List Bool)):=
 bH (mkS 1 (p0.next.length:Int) (false:Bool)) λa=>
 bH (cntM (dL p1) a.length 0 (a:(List Bool))) λb=>
 aft (λr=>some r) (λc=>
  some (c:(List Bool))) b
def kD (p0:Int) (c0:(List Int)):Option ((List Int)):=
 bH (appS 8 c0 ([p0]:List Int)) λa=>
 some (a:(List Int))
def ck (rc:Int->(List (List Int))->(List Int)->(List Bool)->(List Bool)->Option ((List Int)×(List Bool))) (p1:(List (List Int))) (c1:(List Bool)) (f:(List Int)) (e:Int) (s1:(List Int)×(List Bool)):Option (((List Int)×(List Bool))⊕(((List Int)×(List Bool))⊕((List Int)×(List Bool)))):=
 bH (idx f e) λa=>
 bH (idx c1 a) λg=>
 bH (bif g then
 bH (idx s1.2 a) λi=>
 some (!i)
 else
 some false) λd=>
 bH (bif d then
  bH (rc a p1 s1.1 s1.2 c1) λc=>
  some (c.1,c.2)
 else
  some (s1.1,s1.2)) λb=>
 some (.inr (.inr (b.1,b.2)))
def cm (rc:Int->(List (List Int))->(List Int)->(List Bool)->(List Bool)->Option ((List Int)×(List Bool))) (p0:Int) (p1:(List (List Int))) (c:(List Int)) (c0:(List Bool)) (c1:(List Bool)):Option ((List Int)×(List Bool)):=
 bH (idx c0 p0) λg=>
 bH (setI c0 p0 true) λf=>
 bH (idx p1 p0) λb=>
 bH (cntM (ck rc p1 c1 b) b.length 0 (c,f)) λd=>
 aft (λr=>some r) (λa=>
  bH (kD p0 a.1) λe=>
  some (e,a.2)) d
def bW:Nat->Int->(List (List Int))->(List Int)->(List Bool)->(List Bool)->Option ((List Int)×(List Bool))
 | 0=>λ_ _ _ _ _=>none
 | n+1=>cm (bW n)
def mh (p0:Int) (c0:(List Int)):Option ((List Int)):=
 bH (appS 8 c0 ([p0]:List Int)) λa=>
 some (a:(List Int))
def cK (rc:Int->(List (List Int))->(List Int)->(List Bool)->(List Bool)->Option ((List Int)×(List Bool))) (p1:(List (List Int))) (c1:(List Bool)) (f:(List Int)) (e:Int) (s1:(List Int)×(List Bool)):Option (((List Int)×(List Bool))⊕(((List Int)×(List Bool))⊕((List Int)×(List Bool)))):=
 bH (idx f e) λa=>
 bH (idx c1 a) λg=>
 bH (bif g then
 bH (idx s1.2 a) λi=>
 some (!i)
 else
 some false) λd=>
 bH (bif d then
  bH (rc a p1 s1.1 s1.2 c1) λc=>
  some (c.1,c.2)
 else
  some (s1.1,s1.2)) λb=>
 some (.inr (.inr (b.1,b.2)))
def cE (rc:Int->(List (List Int))->(List Int)->(List Bool)->(List Bool)->Option ((List Int)×(List Bool))) (p0:Int) (p1:(List (List Int))) (c:(List Int)) (c0:(List Bool)) (c1:(List Bool)):Option ((List Int)×(List Bool)):=
 bH (idx c0 p0) λg=>
 bH (setI c0 p0 true) λf=>
 bH (idx p1 p0) λb=>
 bH (cntM (cK rc p1 c1 b) b.length 0 (c,f)) λd=>
 aft (λr=>some r) (λa=>
  bH (mh p0 a.1) λe=>
  some (e,a.2)) d
def cj:Nat->Int->(List (List Int))->(List Int)->(List Bool)->(List Bool)->Option ((List Int)×(List Bool))
 | 0=>λ_ _ _ _ _=>none
 | n+1=>cE (cj n)
def cJ (p0:(List Int)):Option (List Int):=
 if 0<p0.length/\p0.length<4611686018427387904 then some (p0.mergeSort λx y=>decide (x<=y)) else if p0.length=0 then some p0 else none
def d8 (p0:(List (List Int))):Option (List (List Int)):=
 if p0.length<4611686018427387904/\(p0.all λl=> !l.isEmpty)=true then some (p0.mergeSort leI) else none
def iq (p1:(List Bool)) (c:Int) (g:(List Int)) (f:Int) (a:(List (List Int))):Option ((List (List Int))⊕(((List (List Int)))⊕((List (List Int))))):=
 bH (idx g f) λb=>
 bH (idx p1 c) λi=>
 bH (bif i then
 bH (idx p1 b) λj=>
 some j
 else
 some false) λd=>
 bH (bif d then
  bH (idx a b) λk=>
  bH (appS 8 k ([c]:List Int)) λl=>
  bH (idx a b) λn=>
  bH (setI a b (l:(List Int))) λm=>
  some (m:(List (List Int)))
 else
  some (a:(List (List Int)))) λe=>
 some (.inr (.inr (e:(List (List Int)))))
def eJ (p0:(List (List Int))) (p1:(List Bool)) (a:Int) (s1:(List (List Int))):Option ((List (List Int))⊕(((List (List Int)))⊕((List (List Int))))):=
 bH (idx p0 a) λb=>
 bH (cntM (iq p1 a b) b.length 0 (s1:(List (List Int)))) λc=>
 aft (λr=>some (.inl r)) (λd=>
  some (.inr (.inr (d:(List (List Int)))))) c
def fY (p0:(List (List Int))) (p1:(List Bool)) (b:Int) (a:(List Int)×(List Bool)):Option ((List (List Int))⊕(((List Int)×(List Bool))⊕((List Int)×(List Bool)))):=
 bH (idx p1 b) λf=>
 bH (bif f then
 bH (idx a.2 b) λg=>
 some (!g)
 else
 some false) λe=>
 bH (bif e then
  bH (bW (2 ^ 64) b p0 a.1 a.2 p1) λd=>
  some (d.1,d.2)
 else
  some (a.1,a.2)) λc=>
 some (.inr (.inr (c.1,c.2)))
def df (p0:(List (List Int))) (p1:(List Bool)) (g:(List (List Int))) (f:(List Int)×(List Bool)) (a:(List (List Int))×Int×(List Bool)):Option ((List (List Int))⊕(((List (List Int))×Int×(List Bool))⊕((List (List Int))×Int×(List Bool)))):=
 bif decide (0<=a.2.1) then
  bH (idx f.1 a.2.1) λb=>
  bH (idx a.2.2 b) λi=>
  bif i then
   some (.inr (.inr (a.1,((IntKind.i64.wrap (a.2.1-1)):Int),a.2.2)))
  else
   bH (cj (2 ^ 64) b g ([]:List Int) a.2.2 p1) λc=>
   bH (cJ c.1) λj=>
   bH (bif decide (1<(c.1.length:Int)) then
   some true
   else
   bH (idx p0 b) λk=>
   bH (cc k b) λl=>
   some l) λd=>
   bH (bif d then
    bH (appS 24 a.1 ([j]:List (List Int))) λm=>
    some (m:(List (List Int)))
   else
    some (a.1:(List (List Int)))) λe=>
   some (.inr (.inr (e,((IntKind.i64.wrap (a.2.1-1)):Int),c.2)))
 else
  some (.inr (.inl (a.1,a.2.1,a.2.2)))
def kV (p0:(List (List Int))) (p1:(List Bool)):Option ((List (List Int))):=
 bH (mkS 24 (p0.length:Int) (([]:List Int):(List Int))) λi=>
 bH (cntM (eJ p0 p1) p0.length 0 (i:(List (List Int)))) λc=>
 aft (λr=>some r) (λf=>
  bH (mkS 1 (p0.length:Int) (false:Bool)) λj=>
  bH (cntM (fY p0 p1) p0.length 0 ((([]:List Int):(List Int)),j)) λd=>
  aft (λr=>some r) (λa=>
   bH (mkS 1 (p0.length:Int) (false:Bool)) λk=>
   bH (bU (df p0 p1 f a) (2 ^ 64) ((([]:List (List Int)):(List (List Int))),((IntKind.i64.wrap ((a.1.length:Int)-1)):Int),k)) λb=>
   aft (λr=>some r) (λe=>
    bH (d8 e.1) λg=>
    some (g:(List (List Int)))) b) d) c
def dN (p1:Pair) (e:(List Int)) (d:Int) (a:(List Int)):Option ((List Int)⊕(((List Int))⊕((List Int)))):=
 bH (idx e d) λb=>
 bH (cc p1.Ask b) λf=>
 bH (bif f then
  bH (appS 8 a ([b]:List Int)) λg=>
  some (g:(List Int))
 else
  some (a:(List Int))) λc=>
 some (.inr (.inr (c:(List Int))))
def dM (p1:Pair) (e:(List (List Int))) (d:Int) (s1:(List Int)):Option ((List Int)⊕(((List Int))⊕((List Int)))):=
 bH (idx e d) λa=>
 bH (cntM (dN p1 a) a.length 0 (s1:(List Int))) λb=>
 aft (λr=>some (.inl r)) (λc=>
  some (.inr (.inr (c:(List Int))))) b
def eP (p0:watch) (p1:Pair):Option ((List Int)):=
 bH (eO p0 p1.Give) λd=>
 bH (kV p0.next d) λa=>
 bH (cntM (dM p1 a) a.length 0 (([]:List Int):(List Int))) λb=>
 aft (λr=>some r) (λc=>
  bH (cJ c) λe=>
  some (e:(List Int))) b
def dS (p0:watch) (a:Int) (s1:(List Int)):Option ((List Int)⊕(((List Int))⊕((List Int)))):=
 bH (idx p0.pairs a) λc=>
 bH (eP p0 c) λd=>
 bH (bif decide (0<(d.length:Int)) then
  bH (appS 8 s1 ([a]:List Int)) λe=>
  some (e:(List Int))
 else
  some (s1:(List Int))) λb=>
 some (.inr (.inr (b:(List Int))))
def fo (p0:watch):Option ((List Int)):=
 bH (cntM (dS p0) p0.pairs.length 0 (([]:List Int):(List Int))) λa=>
 aft (λr=>some r) (λb=>
  some (b:(List Int))) a
def jY (p0:Sig) (p1:Machine) (p2:(List Clause)):Option (Bool):=
 bH (gL p0 p1 p2) λa=>
 bH (bif a.2 then
 bH (guardS a.1.isSome) λ_g96=>
 bH (fo (a.1.getD (⟨([]:List (List Int)),([]:List (List Int)),([]:List Pair)⟩:watch))) λc=>
 some ((c.length:Int)==0)
 else
 some false) λb=>
 some (b:Bool)
def jX (s1:Int) (b:Int) (a:Int):Option ((Machine×Bool)⊕((Int)⊕(Int))):=
 some (.inr (.inr ((IntKind.i64.wrap (a * (IntKind.i64.wrap ((IntKind.i64.wrap (4 * s1)) * s1)))):Int)))
def dj (p0:(List Clause)) (s1:Int) (b:Int) (d:Unit):Option ((Machine×Bool)⊕((Unit)⊕(Unit))):=
 bH (gY b s1) λa=>
 bH (jY (⟨1,1⟩:Sig) a p0) λc=>
 bif c then
  some (.inl (a,true))
 else
  some (.inr (.inr ()))
def ch (p0:(List Clause)) (p1:Int) (s1:Int):Option ((Machine×Bool)⊕((Int)⊕(Int))):=
 bif decide (s1<=p1) then
  bH (rng s1) λ_=>
  bH (cntM (jX s1) (n6 (s1-0)) 0 (1:Int)) λb=>
  aft (λr=>some (.inl r)) (λa=>
   bH (rng a) λ_=>
   bH (cntM (dj p0 s1) (n6 (a-0)) 0 ()) λc=>
   aft (λr=>some (.inl r)) (λd=>
    some (.inr (.inr ((IntKind.i64.wrap (s1+1)):Int)))) c) b
 else
  some (.inr (.inl (s1:Int)))
def dE (p0:(List Clause)) (p1:Int):Option (Machine×Bool):=
 bH (eI (⟨1,1⟩:Sig) p0) λd=>
 bH (bif (!d) then
 some true
 else
 some (decide (p1<1))) λa=>
 bH (bif a then
 some true
 else
 some (decide (2<p1))) λb=>
 bif b then
  some (((⟨([]:List (List Int)),([]:List (List Int))⟩:Machine):Machine),false)
 else
  bH (bU (ch p0 p1) (2 ^ 64) (1:Int)) λc=>
  aft (λr=>some r) (λe=>
   some (((⟨([]:List (List Int)),([]:List (List Int))⟩:Machine):Machine),false)) c
def dQ (p0:Int) (p1:Int) (p2:Int):Option (Bool):=
 bH (bif decide (p1<=p0) then
 some (decide (p0<=p2))
 else
 some false) λa=>
 some (a:Bool)
def jm (p0:Sig):Option (Bool):=
 bH (dQ p0.In 1 2) λb=>
 bH (bif b then
 bH (dQ p0.Out 1 2) λc=>
 some c
 else
 some false) λa=>
 some (a:Bool)
def eV  (s1:Int×Int):Option (Int⊕((Int×Int)⊕(Int×Int))):=
 bif decide (0<s1.1) then
  some (.inr (.inr (((IntKind.i64.wrap (s1.1-1)):Int),((IntKind.i64.wrap (s1.2 * 2)):Int))))
 else
  some (.inr (.inl (s1.1,s1.2)))
def de (p0:Int):Option (Int):=
 bH (bU eV (2 ^ 64) (p0,(1:Int))) λa=>
 aft (λr=>some r) (λb=>
  some (b.2:Int)) a
def dt (p0:Sig):Option (Int):=
 bH (jm p0) λb=>
 bif (!b) then
  some (0:Int)
 else
  bH (de (IntKind.i64.wrap (p0.In+p0.Out))) λa=>
  some (a:Int)
def iH (p0:(List Int)) (p1:Int) (a:Int) (s1:Unit):Option (Bool⊕((Unit)⊕(Unit))):=
 bH (idx p0 a) λd=>
 bH (dQ d 0 (IntKind.i64.wrap (p1-1))) λe=>
 bH (bif (!e) then
 some true
 else
 bH (bif decide (0<a) then
 bH (idx p0 a) λf=>
 bH (idx p0 (IntKind.i64.wrap (a-1))) λg=>
 some (decide (f<=g))
 else
 some false) λb=>
 some b) λc=>
 bif c then
  some (.inl (false:Bool))
 else
  some (.inr (.inr ()))
def lg (p0:(List Int)) (p1:Int):Option (Bool):=
 bH (cntM (iH p0 p1) p0.length 0 ()) λa=>
 aft (λr=>some r) (λb=>
  some (true:Bool)) a
def kG (p0:(List Int)) (p1:Int):Option (Bool):=
 bH (bif decide ((p0.length:Int)<=p1) then
 bH (lg p0 p1) λb=>
 some b
 else
 some false) λa=>
 some (a:Bool)
def mR (p0:Int):Option (Bool):=
 bH (bif (p0==2) then
 some true
 else
 some (p0==3)) λb=>
 bH (bif b then
 some true
 else
 some (p0==7)) λa=>
 some (a:Bool)
def i7 (p0:Sig) (p1:Clause):Option (Bool):=
 bH (jm p0) λk=>
 bH (bif (!k) then
 some true
 else
 bH (dQ p1.Kind 1 7) λf=>
 some (!f)) λb=>
 bif b then
  some (false:Bool)
 else
  bH (dt p0) λa=>
  bH (kG p1.A a) λg=>
  bH (bif g then
  bH (kG p1.B a) λi=>
  some i
  else
  some false) λc=>
  bH (bif c then
  bH (mR p1.Kind) λj=>
  bH (bif j then
  some true
  else
  some ((p1.B.length:Int)==0)) λd=>
  some d
  else
  some false) λe=>
  some (e:Bool)
def fB (p0:Sig) (p1:(List Clause)) (a:Int) (s1:Unit):Option (Bool⊕((Unit)⊕(Unit))):=
 bH (idx p1 a) λb=>
 bH (i7 p0 b) λc=>
 bif (!c) then
  some (.inl (false:Bool))
 else
  some (.inr (.inr ()))
def fx (p0:Sig) (p1:(List Clause)):Option (Bool):=
 bH (jm p0) λc=>
 bH (bif (!c) then
 some true
 else
 some (decide (3<(p1.length:Int)))) λa=>
 bif a then
  some (false:Bool)
 else
  bH (cntM (fB p0 p1) p1.length 0 ()) λb=>
  aft (λr=>some r) (λd=>
   some (true:Bool)) b
def lj (p0:Int):Option (Pair):=
 bH (bif (p0==1) then
  some (true:Bool)
 else
  some ((p0==5):Bool)) λa=>
 bif a then
  some ((⟨([1]:List Int),([]:List Int)⟩:Pair):Pair)
 else
  bif (p0==2) then
   some ((⟨([2]:List Int),([]:List Int)⟩:Pair):Pair)
  else
   bif (p0==3) then
    some ((⟨([1]:List Int),([0]:List Int)⟩:Pair):Pair)
   else
    bif (p0==4) then
     some ((⟨([0,1]:List Int),([1]:List Int)⟩:Pair):Pair)
    else
     bif (p0==6) then
      some ((⟨([0]:List Int),([]:List Int)⟩:Pair):Pair)
     else
      some ((⟨([2,3]:List Int),([1,3]:List Int)⟩:Pair):Pair)
def jA (p0:Int):Option (Int):=
 bif (p0==2) then
  some (3:Int)
 else
  bif (p0==7) then
   some (4:Int)
  else
   some (2:Int)
def gN (p0:(List Int)) (p1:Int) (a:Int) (s1:Unit):Option (Bool⊕((Unit)⊕(Unit))):=
 bH (idx p0 a) λb=>
 bif (b==p1) then
  some (.inl (true:Bool))
 else
  some (.inr (.inr ()))
def gJ (p0:(List Int)) (p1:Int):Option (Bool):=
 bH (cntM (gN p0 p1) p0.length 0 ()) λa=>
 aft (λr=>some r) (λb=>
  some (false:Bool)) a
def iF (p0:Bool):Option (Int):=
 bif p0 then
  some (1:Int)
 else
  some (0:Int)
def jN (p0:Int) (p1:Int):Option (Int):=
 bif decide (p1<p0) then
  some (p0:Int)
 else
  some (p1:Int)
def lh (p0:Clause) (p1:Int) (p2:Int):Option (Int):=
 bH (gJ p0.A p2) λe=>
 bH (iF e) λa=>
 bH (gJ p0.B p2) λf=>
 bH (iF f) λb=>
 bif (p0.Kind==1) then
  bH (jN p1 (IntKind.i64.wrap (1-a))) λg=>
  some (g:Int)
 else
  bif (p0.Kind==2) then
   bH (bif (p1==2) then
   some true
   else
   bH (bif (p1==1) then
   some (b==0)
   else
   some false) λc=>
   some c) λd=>
   bif d then
    some (2:Int)
   else
    some (a:Int)
  else
   bif (p0.Kind==3) then
    bif (b==1) then
     some (0:Int)
    else
     bH (jN p1 a) λi=>
     some (i:Int)
   else
    bif (p0.Kind==4) then
     some (a:Int)
    else
     bif (p0.Kind==5) then
      some ((IntKind.i64.wrap (1-a)):Int)
     else
      bif (p0.Kind==6) then
       bH (jN p1 a) λj=>
       some (j:Int)
      else
       some ((IntKind.i64.wrap ((IntKind.i64.wrap (2 * a))+b)):Int)
def fH (p0:Sig) (p1:Clause) (s1:Int×(List (List Int))) (a:(List Int)×Int):Option (Det⊕(((List Int)×Int)⊕((List Int)×Int))):=
 bH (dt p0) λb=>
 bif decide (a.2<b) then
  bH (lh p1 s1.1 a.2) λc=>
  bH (appS 8 a.1 ([c]:List Int)) λd=>
  some (.inr (.inr (d,((IntKind.i64.wrap (a.2+1)):Int))))
 else
  some (.inr (.inl (a.1,a.2)))
def fG (p0:Sig) (p1:Clause) (s1:Int×(List (List Int))):Option (Det⊕((Int×(List (List Int)))⊕(Int×(List (List Int))))):=
 bH (jA p1.Kind) λc=>
 bif decide (s1.1<c) then
  bH (bU (fH p0 p1 s1) (2 ^ 64) ((([]:List Int):(List Int)),(0:Int))) λa=>
  aft (λr=>some (.inl r)) (λb=>
   bH (appS 24 s1.2 ([b.1]:List (List Int))) λd=>
   some (.inr (.inr (((IntKind.i64.wrap (s1.1+1)):Int),d)))) a
 else
  some (.inr (.inl (s1.1,s1.2)))
def ju (p0:Sig) (p1:Clause):Option (Det):=
 bH (i7 p0 p1) λc=>
 bif (!c) then
  some ((⟨([]:List (List Int)),([]:List Pair)⟩:Det):Det)
 else
  bH (lj p1.Kind) λd=>
  bH (bU (fG p0 p1) (2 ^ 64) ((0:Int),(([]:List (List Int)):(List (List Int))))) λa=>
  aft (λr=>some r) (λb=>
   some ((⟨b.2,([d]:List Pair)⟩:Det):Det)) a
def gw (p0:(List Int)) (p1:Int) (a:Int) (s1:Unit):Option (Bool⊕((Unit)⊕(Unit))):=
 bH (idx p0 a) λb=>
 bH (dQ b 0 (IntKind.i64.wrap (p1-1))) λc=>
 bif (!c) then
  some (.inl (false:Bool))
 else
  some (.inr (.inr ()))
def gO (p0:(List Int)) (p1:Int):Option (Bool):=
 bH (cntM (gw p0 p1) p0.length 0 ()) λa=>
 aft (λr=>some r) (λb=>
  some (true:Bool)) a
def mP (p0:(List Int)) (p1:Int):Option (Bool):=
 bH (dQ p1 0 256) λc=>
 bH (bif c then
 bH (kG p0 p1) λb=>
 some b
 else
 some false) λa=>
 some (a:Bool)
def iB (p0:(List Pair)) (p1:Int) (a:Int) (s1:Unit):Option (Bool⊕((Unit)⊕(Unit))):=
 bH (idx p0 a) λc=>
 bH (mP c.Ask p1) λd=>
 bH (bif (!d) then
 some true
 else
 bH (idx p0 a) λe=>
 bH (mP e.Give p1) λf=>
 some (!f)) λb=>
 bif b then
  some (.inl (false:Bool))
 else
  some (.inr (.inr ()))
def jT (p0:(List Pair)) (p1:Int):Option (Bool):=
 bH (dQ p1 0 256) λc=>
 bH (bif (!c) then
 some true
 else
 some (decide (4<(p0.length:Int)))) λa=>
 bif a then
  some (false:Bool)
 else
  bH (cntM (iB p0 p1) p0.length 0 ()) λb=>
  aft (λr=>some r) (λd=>
   some (true:Bool)) b
def kc (p0:Sig) (p1:Det) (a:Int) (s1:Unit):Option (Bool⊕((Unit)⊕(Unit))):=
 bH (idx p1.Next a) λc=>
 bH (dt p0) λd=>
 bH (bif ((c.length:Int) !=d) then
 some true
 else
 bH (idx p1.Next a) λe=>
 bH (gO e (p1.Next.length:Int)) λf=>
 some (!f)) λb=>
 bif b then
  some (.inl (false:Bool))
 else
  some (.inr (.inr ()))
def jl (p0:Sig) (p1:Det):Option (Bool):=
 bH (jm p0) λc=>
 bH (bif (!c) then
 some true
 else
 bH (dQ (p1.Next.length:Int) 1 48) λd=>
 some (!d)) λa=>
 bif a then
  some (false:Bool)
 else
  bH (cntM (kc p0 p1) p1.Next.length 0 ()) λb=>
  aft (λr=>some r) (λf=>
   bH (jT p1.Pairs (p1.Next.length:Int)) λe=>
   some (e:Bool)) b
def gA (p0:(List (List Int))) (p1:Int) (p2:Int) (a:Int) (s1:Unit):Option (Int⊕((Unit)⊕(Unit))):=
 bH (idx p0 a) λc=>
 bH (idx c 0) λd=>
 bH (bif (d==p1) then
 bH (idx p0 a) λe=>
 bH (idx e 1) λf=>
 some (f==p2)
 else
 some false) λb=>
 bif b then
  some (.inl (a:Int))
 else
  some (.inr (.inr ()))
def km (p0:(List (List Int))) (p1:Int) (p2:Int):Option (Int):=
 bH (cntM (gA p0 p1 p2) p0.length 0 ()) λa=>
 aft (λr=>some r) (λb=>
  some ((-1):Int)) a
def gz (p0:(List Pair)) (p1:(List (List Int))) (p2:Int) (c:Int) (b:Int) (a:(List Int)×(List Int)):Option ((List Pair)⊕(((List Int)×(List Int))⊕((List Int)×(List Int)))):=
 bH (idx p0 c) λf=>
 bH (idx p1 b) λg=>
 bH (idx g p2) λi=>
 bH (gJ f.Ask i) λj=>
 bH (bif j then
  bH (appS 8 a.1 ([b]:List Int)) λk=>
  some (k:(List Int))
 else
  some (a.1:(List Int))) λd=>
 bH (idx p0 c) λl=>
 bH (idx p1 b) λm=>
 bH (idx m p2) λn=>
 bH (gJ l.Give n) λo=>
 bH (bif o then
  bH (appS 8 a.2 ([b]:List Int)) λp=>
  some (p:(List Int))
 else
  some (a.2:(List Int))) λe=>
 some (.inr (.inr (d,e)))
def gx (p0:(List Pair)) (p1:(List (List Int))) (p2:Int) (c:Int) (s1:(List Pair)):Option ((List Pair)⊕(((List Pair))⊕((List Pair)))):=
 bH (cntM (gz p0 p1 p2 c) p1.length 0 ((([]:List Int):(List Int)),(([]:List Int):(List Int)))) λb=>
 aft (λr=>some (.inl r)) (λa=>
  bH (appS 48 s1 ([(⟨a.1,a.2⟩:Pair)]:List Pair)) λd=>
  some (.inr (.inr (d:(List Pair))))) b
def jd (p0:(List Pair)) (p1:(List (List Int))) (p2:Int):Option ((List Pair)):=
 bH (cntM (gx p0 p1 p2) p0.length 0 (([]:List Pair):(List Pair))) λa=>
 aft (λr=>some r) (λb=>
  some (b:(List Pair))) a
def er (p0:Det) (p1:Det) (s1:(List (List Int))×Int×(List (List Int))) (c:Int) (a:(List (List Int))×(List Int)):Option ((Det×Bool)⊕(((List (List Int))×(List Int))⊕((List (List Int))×(List Int)))):=
 bH (idx a.1 s1.2.1) λg=>
 bH (idx g 0) λi=>
 bH (idx p0.Next i) λj=>
 bH (idx j c) λd=>
 bH (idx a.1 s1.2.1) λk=>
 bH (idx k 1) λl=>
 bH (idx p1.Next l) λm=>
 bH (idx m c) λe=>
 bH (km a.1 d e) λf=>
 bH (bif decide (f<0) then
  bH (appS 24 a.1 ([([d,e]:List Int)]:List (List Int))) λn=>
  some (n,((a.1.length:Int):Int))
 else
  some (a.1,f)) λb=>
 bH (appS 8 a.2 ([b.2]:List Int)) λo=>
 some (.inr (.inr (b.1,o)))
def fO (p0:Det) (p1:Det) (p2:Int) (s1:(List (List Int))×Int×(List (List Int))):Option ((Det×Bool)⊕(((List (List Int))×Int×(List (List Int)))⊕((List (List Int))×Int×(List (List Int))))):=
 bif decide (s1.2.1<(s1.1.length:Int)) then
  bH (rng p2) λ_=>
  bH (cntM (er p0 p1 s1) (n6 (p2-0)) 0 (s1.1,(([]:List Int):(List Int)))) λb=>
  aft (λr=>some (.inl r)) (λa=>
   bif decide (48<(a.1.length:Int)) then
    some (.inl (((⟨([]:List (List Int)),([]:List Pair)⟩:Det):Det),false))
   else
    bH (appS 24 s1.2.2 ([a.2]:List (List Int))) λc=>
    some (.inr (.inr (a.1,((IntKind.i64.wrap (s1.2.1+1)):Int),c)))) b
 else
  some (.inr (.inl (s1.1,s1.2.1,s1.2.2)))
def eG (p0:Det) (p1:Det) (p2:Int):Option (Det×Bool):=
 bH (bU (fO p0 p1 p2) (2 ^ 64) ((([([0,0]:List Int)]:List (List Int)):(List (List Int))),(0:Int),(([]:List (List Int)):(List (List Int))))) λb=>
 aft (λr=>some r) (λa=>
  bH (jd p0.Pairs a.1 0) λc=>
  bH (jd p1.Pairs a.1 1) λd=>
  bH (appS 48 c d) λe=>
  some (((⟨a.2.2,e⟩:Det):Det),true)) b
def jt (p0:Sig) (p1:Det) (p2:Det):Option (Det×Bool):=
 bH (jl p0 p1) λd=>
 bH (bif (!d) then
 some true
 else
 bH (jl p0 p2) λe=>
 some (!e)) λb=>
 bH (bif b then
 some true
 else
 some (decide (4<(IntKind.i64.wrap ((p1.Pairs.length:Int)+(p2.Pairs.length:Int)))))) λc=>
 bif c then
  some (((⟨([]:List (List Int)),([]:List Pair)⟩:Det):Det),false)
 else
  bH (dt p0) λf=>
  bH (eG p1 p2 f) λa=>
  some (a.1,a.2)
def eo (p0:Sig) (p1:(List Clause)) (b:Int) (s1:(List (List Int))×(List Pair)):Option ((Det×Bool)⊕(((List (List Int))×(List Pair))⊕((List (List Int))×(List Pair)))):=
 bH (idx p1 b) λc=>
 bH (ju p0 c) λd=>
 bH (jt p0 (⟨s1.1,s1.2⟩:Det) d) λa=>
 bif (!a.2) then
  some (.inl (((⟨([]:List (List Int)),([]:List Pair)⟩:Det):Det),false))
 else
  some (.inr (.inr (a.1.Next,a.1.Pairs)))
def cU (p0:Sig) (p1:(List Clause)):Option (Det×Bool):=
 bH (fx p0 p1) λc=>
 bif (!c) then
  some (((⟨([]:List (List Int)),([]:List Pair)⟩:Det):Det),false)
 else
  bH (dt p0) λd=>
  bH (mkS 8 d (0:Int)) λe=>
  bH (cntM (eo p0 p1) p1.length 0 ((([e]:List (List Int)):(List (List Int))),(([]:List Pair):(List Pair)))) λb=>
  aft (λr=>some r) (λa=>
   some (((⟨a.1,a.2⟩:Det):Det),true)) b
def dG (p0:Sig):Option (Int):=
 bH (de p0.In) λa=>
 some (a:Int)
def i9 (p0:Sig) (p1:Int) (p2:Int):Option (Int):=
 bH (jm p0) λi=>
 bH (bif (!i) then
 some true
 else
 bH (de p0.In) λc=>
 bH (dQ p1 0 (IntKind.i64.wrap (c-1))) λd=>
 some (!d)) λa=>
 bH (bif a then
 some true
 else
 bH (de p0.Out) λe=>
 bH (dQ p2 0 (IntKind.i64.wrap (e-1))) λf=>
 some (!f)) λb=>
 bif b then
  some ((-1):Int)
 else
  bH (de p0.In) λg=>
  some ((IntKind.i64.wrap ((IntKind.i64.wrap (p2 * g))+p1)):Int)
def dA (p0:(List Int)):Option ((List Int)):=
 bH (appS 8 ([]:List Int) p0) λa=>
 some (a:(List Int))
def fN (p0:(List Int)) (p1:Int) (s1:Int):Option ((List Int)⊕((Int)⊕(Int))):=
 bH (bif decide (s1<(p0.length:Int)) then
 bH (idx p0 s1) λb=>
 some (decide (b<p1))
 else
 some false) λa=>
 bif a then
  some (.inr (.inr ((IntKind.i64.wrap (s1+1)):Int)))
 else
  some (.inr (.inl (s1:Int)))
def jz (p0:(List Int)) (p1:Int):Option ((List Int)):=
 bH (bU (fN p0 p1) (2 ^ 64) (0:Int)) λc=>
 aft (λr=>some r) (λa=>
  bH (bif decide (a<(p0.length:Int)) then
  bH (idx p0 a) λd=>
  some (d==p1)
  else
  some false) λb=>
  bif b then
   some (p0:(List Int))
  else
   bH (subS p0 0 a) λe=>
   bH (dA e) λf=>
   bH (appS 8 f ([p1]:List Int)) λg=>
   bH (subS p0 a (p0.length:Int)) λi=>
   bH (appS 8 g i) λj=>
   some (j:(List Int))) c
def gB (p0:Sig) (p1:Det) (p2:Int) (a:Int) (s1:(List Int)×Int):Option ((List Int)⊕(((List Int)×Int)⊕((List Int)×Int))):=
 bH (de p0.Out) λb=>
 bif decide (s1.2<b) then
  bH (idx p1.Next p2) λc=>
  bH (i9 p0 a s1.2) λd=>
  bH (idx c d) λe=>
  bH (jz s1.1 e) λf=>
  some (.inr (.inr (f,((IntKind.i64.wrap (s1.2+1)):Int))))
 else
  some (.inr (.inl (s1.1,s1.2)))
def ko (p0:Sig) (p1:Det) (p2:Int) (a:Int):Option ((List Int)):=
 bH (bU (gB p0 p1 p2 a) (2 ^ 64) ((([]:List Int):(List Int)),(0:Int))) λb=>
 aft (λr=>some r) (λc=>
  some (c.1:(List Int))) b
def ek (p1:Det) (d:Int) (b:Int) (c:Int) (a:(List Int)):Option ((Arena×(List Pair)×Bool)⊕(((List Int))⊕((List Int)))):=
 bH (appS 8 a ([(IntKind.i64.wrap ((IntKind.i64.wrap ((p1.Next.length:Int)+(IntKind.i64.wrap (b * d))))+c))]:List Int)) λe=>
 some (.inr (.inr (e:(List Int))))
def ej (p1:Det) (a:Int) (d:Int) (s1:(List Int)×(List (List Int))):Option ((Arena×(List Pair)×Bool)⊕(((List Int)×(List (List Int)))⊕((List Int)×(List (List Int))))):=
 bH (rng a) λ_=>
 bH (cntM (ek p1 a d) (n6 (a-0)) 0 (([]:List Int):(List Int))) λb=>
 aft (λr=>some (.inl r)) (λc=>
  bH (appS 8 s1.1 ([1]:List Int)) λe=>
  bH (appS 24 s1.2 ([c]:List (List Int))) λf=>
  some (.inr (.inr (e,f)))) b
def em (p0:Sig) (p1:Det) (b:Int) (c:Int) (a:(List Int)×(List (List Int))):Option ((Arena×(List Pair)×Bool)⊕(((List Int)×(List (List Int)))⊕((List Int)×(List (List Int))))):=
 bH (appS 8 a.1 ([0]:List Int)) λd=>
 bH (ko p0 p1 b c) λe=>
 bH (appS 24 a.2 ([e]:List (List Int))) λf=>
 some (.inr (.inr (d,f)))
def el (p0:Sig) (p1:Det) (c:Int) (e:Int) (b:(List Int)×(List (List Int))):Option ((Arena×(List Pair)×Bool)⊕(((List Int)×(List (List Int)))⊕((List Int)×(List (List Int))))):=
 bH (rng c) λ_=>
 bH (cntM (em p0 p1 e) (n6 (c-0)) 0 (b.1,b.2)) λd=>
 aft (λr=>some (.inl r)) (λa=>
  some (.inr (.inr (a.1,a.2)))) d
def en (p1:Det) (a:Int) (b:(List Pair)):Option ((Arena×(List Pair)×Bool)⊕(((List Pair))⊕((List Pair)))):=
 bH (idx p1.Pairs a) λg=>
 bH (idx p1.Pairs a) λd=>
 bH (dA g.Ask) λc=>
 bH (dA d.Give) λe=>
 bH (appS 48 b ([(⟨c,e⟩:Pair)]:List Pair)) λf=>
 some (.inr (.inr (f:(List Pair))))
def g9 (p0:Sig) (p1:Det):Option (Arena×(List Pair)×Bool):=
 bH (jl p0 p1) λi=>
 bif (!i) then
  some (((⟨([]:List Int),([]:List (List Int))⟩:Arena):Arena),(([]:List Pair):(List Pair)),false)
 else
  bH (dG p0) λc=>
  bH (cntM (ej p1 c) p1.Next.length 0 ((([]:List Int):(List Int)),(([]:List (List Int)):(List (List Int))))) λe=>
  aft (λr=>some r) (λa=>
   bH (cntM (el p0 p1 c) p1.Next.length 0 (a.1,a.2)) λf=>
   aft (λr=>some r) (λb=>
    bH (cntM (en p1) p1.Pairs.length 0 (([]:List Pair):(List Pair))) λd=>
    aft (λr=>some r) (λg=>
     some (((⟨b.1,b.2⟩:Arena):Arena),g,true)) d) f) e
def iy (p0:Arena) (a:Int) (s1:Unit):Option (Bool⊕((Unit)⊕(Unit))):=
 bH (idx p0.Owner a) λe=>
 bH (dQ e 0 1) λf=>
 bH (bif (!f) then
 some true
 else
 bH (idx p0.Next a) λg=>
 some (decide ((g.length:Int)<1))) λb=>
 bH (bif b then
 some true
 else
 bH (idx p0.Next a) λi=>
 some (decide (16<(i.length:Int)))) λc=>
 bH (bif c then
 some true
 else
 bH (idx p0.Next a) λj=>
 bH (kG j (p0.Owner.length:Int)) λk=>
 some (!k)) λd=>
 bif d then
  some (.inl (false:Bool))
 else
  some (.inr (.inr ()))
def jS (p0:Arena):Option (Bool):=
 bH (dQ (p0.Owner.length:Int) 1 256) λc=>
 bH (bif (!c) then
 some true
 else
 some ((p0.Next.length:Int) !=(p0.Owner.length:Int))) λa=>
 bif a then
  some (false:Bool)
 else
  bH (cntM (iy p0) p0.Owner.length 0 ()) λb=>
  aft (λr=>some r) (λd=>
   some (true:Bool)) b
def jx (p0:(List Int)) (p1:Int) (a:Int) (s1:Unit):Option (Bool⊕((Unit)⊕(Unit))):=
 bH (idx p0 a) λb=>
 bif (b==p1) then
  some (.inl (true:Bool))
 else
  some (.inr (.inr ()))
def kl (p0:(List Int)) (p1:Int):Option (Bool):=
 bH (cntM (jx p0 p1) p0.length 0 ()) λa=>
 aft (λr=>some r) (λb=>
  some (false:Bool)) a
def iD (p0:(List Pair)) (p1:(List Int)) (p2:Int) (a:Int) (s1:(List Int)×(List Int)):Option ((List Int)⊕(((List Int)×(List Int))⊕((List Int)×(List Int)))):=
 bH (idx p1 a) λc=>
 bH (idx p0 c) λd=>
 bH (kl d.Give p2) λe=>
 bH (bif e then
  bH (idx p1 a) λf=>
  bH (appS 8 s1.1 ([f]:List Int)) λg=>
  some (g,s1.2)
 else
  bH (idx p1 a) λi=>
  bH (appS 8 s1.2 ([i]:List Int)) λj=>
  some (s1.1,j)) λb=>
 some (.inr (.inr (b.1,b.2)))
def lb (p0:(List Pair)) (p1:(List Int)) (p2:Int):Option ((List Int)):=
 bH (cntM (iD p0 p1 p2) p1.length 0 ((([]:List Int):(List Int)),(([]:List Int):(List Int)))) λb=>
 aft (λr=>some r) (λa=>
  bH (appS 8 a.1 a.2) λc=>
  some (c:(List Int))) b
def ep (p0:(List Int)) (p1:(List Int)) (a:Int) (s1:Unit):Option (Bool⊕((Unit)⊕(Unit))):=
 bH (idx p0 a) λb=>
 bH (idx p1 a) λc=>
 bif (b !=c) then
  some (.inl (false:Bool))
 else
  some (.inr (.inr ()))
def gv (p0:(List Int)) (p1:(List Int)):Option (Bool):=
 bif ((p0.length:Int) !=(p1.length:Int)) then
  some (false:Bool)
 else
  bH (cntM (ep p0 p1) p0.length 0 ()) λa=>
  aft (λr=>some r) (λb=>
   some (true:Bool)) a
def iC (p0:(List Place)) (p1:Int) (p2:(List Int)) (a:Int) (s1:Unit):Option (Int⊕((Unit)⊕(Unit))):=
 bH (idx p0 a) λc=>
 bH (bif (c.At==p1) then
 bH (idx p0 a) λd=>
 bH (gv d.Record p2) λe=>
 some e
 else
 some false) λb=>
 bif b then
  some (.inl (a:Int))
 else
  some (.inr (.inr ()))
def la (p0:(List Place)) (p1:Int) (p2:(List Int)):Option (Int):=
 bH (cntM (iC p0 p1 p2) p0.length 0 ()) λa=>
 aft (λr=>some r) (λb=>
  some ((-1):Int)) a
def fL (p0:(List Int)) (c:Int) (s1:(List Int)) (a:Int):Option ((List Int)⊕((Int)⊕(Int))):=
 bH (bif decide (0<a) then
 bH (idx s1 (IntKind.i64.wrap (a-1))) λd=>
 bH (idx p0 c) λe=>
 some (decide (e<d))
 else
 some false) λb=>
 bif b then
  some (.inr (.inr ((IntKind.i64.wrap (a-1)):Int)))
 else
  some (.inr (.inl (a:Int)))
def fK (p0:(List Int)) (b:Int) (s1:(List Int)):Option ((List Int)⊕(((List Int))⊕((List Int)))):=
 bH (bU (fL p0 b s1) (2 ^ 64) ((s1.length:Int):Int)) λc=>
 aft (λr=>some (.inl r)) (λa=>
  bH (subS s1 0 a) λd=>
  bH (appS 8 ([]:List Int) d) λe=>
  bH (idx p0 b) λf=>
  bH (appS 8 e ([f]:List Int)) λg=>
  bH (subS s1 a (s1.length:Int)) λi=>
  bH (appS 8 g i) λj=>
  some (.inr (.inr (j:(List Int))))) c
def jy (p0:(List Int)):Option ((List Int)):=
 bH (cntM (fK p0) p0.length 0 (([]:List Int):(List Int))) λa=>
 aft (λr=>some r) (λb=>
  some (b:(List Int))) a
def iE (p0:(List Pair)) (p1:(List Int)) (p2:Int) (a:Int) (s1:Int×Int):Option (Int⊕((Int×Int)⊕(Int×Int))):=
 bH (idx p1 a) λd=>
 bH (idx p0 d) λe=>
 bH (kl e.Ask p2) λf=>
 bH (bif f then
  some (a:Int)
 else
  some (s1.1:Int)) λb=>
 bH (idx p1 a) λg=>
 bH (idx p0 g) λi=>
 bH (kl i.Give p2) λj=>
 bH (bif j then
  some (a:Int)
 else
  some (s1.2:Int)) λc=>
 some (.inr (.inr (b,c)))
def lc (p0:(List Pair)) (p1:(List Int)) (p2:Int):Option (Int):=
 bH (cntM (iE p0 p1 p2) p1.length 0 (((-1):Int),((-1):Int))) λc=>
 aft (λr=>some r) (λa=>
  bH (bif decide (a.1<0) then
  some (decide (a.2<0))
  else
  some false) λb=>
  bif b then
   some (0:Int)
  else
   bif decide (a.2<a.1) then
    some ((IntKind.i64.wrap ((IntKind.i64.wrap (2 * a.1))+1)):Int)
   else
    some ((IntKind.i64.wrap ((IntKind.i64.wrap (2 * a.2))+2)):Int)) c
def dX  (a:Int) (s1:(List Int)):Option ((Parity×(List Place)×Bool)⊕(((List Int))⊕((List Int)))):=
 bH (appS 8 s1 ([a]:List Int)) λb=>
 some (.inr (.inr (b:(List Int))))
def eU (p0:Arena) (b:Place) (c:(List Int)) (a:(List Place)×(List Int)×Int):Option ((Parity×(List Place)×Bool)⊕(((List Place)×(List Int)×Int)⊕((List Place)×(List Int)×Int))):=
 bH (idx p0.Next b.At) λl=>
 bif decide (a.2.2<(l.length:Int)) then
  bH (idx p0.Next b.At) λm=>
  bH (idx m a.2.2) λd=>
  bH (la a.1 d c) λe=>
  bH (bif decide (e<0) then
   bif decide (256<=(a.1.length:Int)) then
    some (.inl (((⟨(⟨([]:List Int),([]:List (List Int))⟩:Arena),([]:List Int)⟩:Parity):Parity),(([]:List Place):(List Place)),false))
   else
    bH (appS 8 ([]:List Int) c) λi=>
    bH (appS 32 a.1 ([(⟨d,i⟩:Place)]:List Place)) λj=>
    some (.inr (j,((a.1.length:Int):Int)))
  else
   some (.inr (a.1,e)):Option ((Parity×(List Place)×Bool)⊕((List Place)×Int))) λg=>
  aft (λr=>some (.inl r)) (λf=>
   bH (appS 8 a.2.1 ([f.2]:List Int)) λk=>
   some (.inr (.inr (f.1,k,((IntKind.i64.wrap (a.2.2+1)):Int))))) g
 else
  some (.inr (.inl (a.1,a.2.1,a.2.2)))
def dY (p0:Arena) (p1:(List Pair)) (a:(List Place)×Int×(List Int)×(List (List Int))×(List Int)):Option ((Parity×(List Place)×Bool)⊕(((List Place)×Int×(List Int)×(List (List Int))×(List Int))⊕((List Place)×Int×(List Int)×(List (List Int))×(List Int)))):=
 bif decide (a.2.1<(a.1.length:Int)) then
  bH (idx a.1 a.2.1) λb=>
  bH (lb p1 b.Record b.At) λl=>
  bH (bU (eU p0 b l) (2 ^ 64) (a.1,(([]:List Int):(List Int)),(0:Int))) λd=>
  aft (λr=>some (.inl r)) (λc=>
   bH (idx p0.Owner b.At) λe=>
   bH (appS 8 a.2.2.1 ([e]:List Int)) λf=>
   bH (jy c.2.1) λg=>
   bH (appS 24 a.2.2.2.1 ([g]:List (List Int))) λi=>
   bH (lc p1 b.Record b.At) λj=>
   bH (appS 8 a.2.2.2.2 ([j]:List Int)) λk=>
   some (.inr (.inr (c.1,((IntKind.i64.wrap (a.2.1+1)):Int),f,i,k)))) d
 else
  some (.inr (.inl (a.1,a.2.1,a.2.2.1,a.2.2.2.1,a.2.2.2.2)))
def gM (p0:Arena) (p1:(List Pair)) (p2:Int):Option (Parity×(List Place)×Bool):=
 bH (jS p0) λg=>
 bH (bif (!g) then
 some true
 else
 bH (jT p1 (p0.Owner.length:Int)) λi=>
 some (!i)) λb=>
 bH (bif b then
 some true
 else
 bH (dQ p2 0 (IntKind.i64.wrap ((p0.Owner.length:Int)-1))) λj=>
 some (!j)) λc=>
 bif c then
  some (((⟨(⟨([]:List Int),([]:List (List Int))⟩:Arena),([]:List Int)⟩:Parity):Parity),(([]:List Place):(List Place)),false)
 else
  bH (cntM dX p1.length 0 (([]:List Int):(List Int))) λd=>
  aft (λr=>some r) (λf=>
   bH (bU (dY p0 p1) (2 ^ 64) ((([(⟨p2,f⟩:Place)]:List Place):(List Place)),(0:Int),(([]:List Int):(List Int)),(([]:List (List Int)):(List (List Int))),(([]:List Int):(List Int)))) λe=>
   aft (λr=>some r) (λa=>
    some (((⟨(⟨a.2.2.1,a.2.2.2.1⟩:Arena),a.2.2.2.2⟩:Parity):Parity),a.1,true)) e) d
def gl (p0:Parity) (a:Int) (s1:Unit):Option (Bool⊕((Unit)⊕(Unit))):=
 bH (idx p0.Prio a) λb=>
 bH (dQ b 0 40) λc=>
 bif (!c) then
  some (.inl (false:Bool))
 else
  some (.inr (.inr ()))
def ja (p0:Parity):Option (Bool):=
 bH (jS p0.Arena) λc=>
 bH (bif (!c) then
 some true
 else
 some ((p0.Prio.length:Int) !=(p0.Arena.Owner.length:Int))) λa=>
 bif a then
  some (false:Bool)
 else
  bH (cntM (gl p0) p0.Prio.length 0 ()) λb=>
  aft (λr=>some r) (λd=>
   some (true:Bool)) b
def jH  (b:Int) (s1:(List Int)):Option ((List Int)⊕(((List Int))⊕((List Int)))):=
 bH (appS 8 s1 ([(-1)]:List Int)) λa=>
 some (.inr (.inr (a:(List Int))))
def mC (p0:Int):Option ((List Int)):=
 bH (rng p0) λ_=>
 bH (cntM jH (n6 (p0-0)) 0 (([]:List Int):(List Int))) λa=>
 aft (λr=>some r) (λb=>
  some (b:(List Int))) a
def lT (p0:(List Int)) (p1:Int) (a:Int) (s1:Unit):Option (Bool⊕((Unit)⊕(Unit))):=
 bH (idx p0 a) λb=>
 bif (b==p1) then
  some (.inl (true:Bool))
 else
  some (.inr (.inr ()))
def oB (p0:(List Int)) (p1:Int):Option (Bool):=
 bH (cntM (lT p0 p1) p0.length 0 ()) λa=>
 aft (λr=>some r) (λb=>
  some (false:Bool)) a
def iR (p0:Parity) (p1:(List Int)) (a:Int) (s1:Unit):Option (Bool⊕((Unit)⊕(Unit))):=
 bH (idx p1 a) λc=>
 bH (bif (c !=(-1)) then
 bH (idx p1 a) λe=>
 bH (idx p0.Arena.Next a) λd=>
 bH (oB d e) λf=>
 some (!f)
 else
 some false) λb=>
 bif b then
  some (.inl (false:Bool))
 else
  some (.inr (.inr ()))
def lD (p0:Parity) (p1:(List Int)):Option (Bool):=
 bif ((p1.length:Int) !=(p0.Prio.length:Int)) then
  some (false:Bool)
 else
  bH (cntM (iR p0 p1) p1.length 0 ()) λa=>
  aft (λr=>some r) (λb=>
   some (true:Bool)) a
def jv (p0:Parity) (p1:(List Int)) (a:Int) (s1:(List (List Int))):Option ((Parity×Bool)⊕(((List (List Int)))⊕((List (List Int))))):=
 bH (idx p0.Arena.Next a) λc=>
 bH (dA c) λd=>
 bH (idx p1 a) λe=>
 bH (bif decide (0<=e) then
  bH (idx p1 a) λf=>
  some (([f]:List Int):(List Int))
 else
  some (d:(List Int))) λb=>
 bH (appS 24 s1 ([b]:List (List Int))) λg=>
 some (.inr (.inr (g:(List (List Int)))))
def mt (p0:Parity) (p1:(List Int)):Option (Parity×Bool):=
 bH (ja p0) λf=>
 bH (bif (!f) then
 some true
 else
 bH (lD p0 p1) λg=>
 some (!g)) λc=>
 bif c then
  some (((⟨(⟨([]:List Int),([]:List (List Int))⟩:Arena),([]:List Int)⟩:Parity):Parity),false)
 else
  bH (dA p0.Arena.Owner) λa=>
  bH (dA p0.Prio) λb=>
  bH (cntM (jv p0 p1) p1.length 0 (((⟨(⟨a,([]:List (List Int))⟩:Arena),b⟩:Parity).Arena).Next:(List (List Int)))) λd=>
  aft (λr=>some r) (λe=>
   some (((⟨(⟨((⟨(⟨a,([]:List (List Int))⟩:Arena),b⟩:Parity).Arena).Owner,e⟩:Arena),(⟨(⟨a,([]:List (List Int))⟩:Arena),b⟩:Parity).Prio⟩:Parity):Parity),true)) d
def lC (p0:Parity) (b:Int) (a:Int×(List (List Int))):Option (l7Game⊕((Int×(List (List Int)))⊕(Int×(List (List Int))))):=
 bH (idx p0.Arena.Next b) λd=>
 bif decide (a.1<(d.length:Int)) then
  bH (idx p0.Arena.Next b) λe=>
  bH (idx e a.1) λc=>
  bH (idx a.2 c) λf=>
  bH (appS 8 f ([b]:List Int)) λg=>
  bH (idx a.2 c) λj=>
  bH (setI a.2 c (g:(List Int))) λi=>
  some (.inr (.inr (((IntKind.i64.wrap (a.1+1)):Int),i)))
 else
  some (.inr (.inl (a.1,a.2)))
def lB (p0:Parity) (a:Int) (s1:(List (List Int))×(List Int)):Option (l7Game⊕(((List (List Int))×(List Int))⊕((List (List Int))×(List Int)))):=
 bH (idx s1.2 a) λe=>
 bH (setI s1.2 a (-1)) λd=>
 bH (bU (lC p0 a) (2 ^ 64) ((0:Int),s1.1)) λb=>
 aft (λr=>some (.inl r)) (λc=>
  some (.inr (.inr (c.2,d)))) b
def oC (p0:Parity):Option (l7Game):=
 bH (mkS 24 (p0.Prio.length:Int) (([]:List Int):(List Int))) λa=>
 bH (mkS 8 (p0.Prio.length:Int) (0:Int)) λb=>
 bH (cntM (lB p0) p0.Prio.length 0 (((⟨p0.Arena.Owner,p0.Prio,p0.Arena.Next,a,b⟩:l7Game).prev:(List (List Int))),((⟨p0.Arena.Owner,p0.Prio,p0.Arena.Next,a,b⟩:l7Game).pick:(List Int)))) λd=>
 aft (λr=>some r) (λc=>
  some ((⟨(⟨p0.Arena.Owner,p0.Prio,p0.Arena.Next,a,b⟩:l7Game).owner,(⟨p0.Arena.Owner,p0.Prio,p0.Arena.Next,a,b⟩:l7Game).prio,(⟨p0.Arena.Owner,p0.Prio,p0.Arena.Next,a,b⟩:l7Game).next,c.1,c.2⟩:l7Game):l7Game)) d
def kq  (a:Int) (s1:(List Bool)):Option ((List Bool)⊕(((List Bool))⊕((List Bool)))):=
 bH (idx s1 a) λc=>
 bH (setI s1 a true) λb=>
 some (.inr (.inr (b:(List Bool))))
def ob (p0:Int):Option ((List Bool)):=
 bH (mkS 1 p0 (false:Bool)) λc=>
 bH (rng p0) λ_=>
 bH (cntM kq (n6 (p0-0)) 0 (c:(List Bool))) λa=>
 aft (λr=>some r) (λb=>
  some (b:(List Bool))) a
def ku (p0:l7Game) (p1:(List Bool)) (a:Int) (s1:Int):Option (Int⊕((Int)⊕(Int))):=
 bH (idx p1 a) λc=>
 bH (bif c then
  bH (idx p0.prio a) λd=>
  bH (jN s1 d) λe=>
  some (e:Int)
 else
  some (s1:Int)) λb=>
 some (.inr (.inr (b:Int)))
def oc (p0:l7Game) (p1:(List Bool)):Option (Int):=
 bH (cntM (ku p0 p1) p1.length 0 ((-1):Int)) λa=>
 aft (λr=>some r) (λb=>
  some (b:Int)) a
def lw (p0:l7Game) (p1:Int) (p2:Int):Option (Bool):=
 bH (idx p0.pick p1) λb=>
 bH (bif decide (b<0) then
 some true
 else
 bH (idx p0.pick p1) λc=>
 some (c==p2)) λa=>
 some (a:Bool)
def gD (p0:l7Game) (p1:(List Bool)) (p2:Int) (s1:Int×Int):Option (Int⊕((Int×Int)⊕(Int×Int))):=
 bH (idx p0.next p2) λd=>
 bif decide (s1.2<(d.length:Int)) then
  bH (idx p0.next p2) λe=>
  bH (idx e s1.2) λa=>
  bH (idx p1 a) λf=>
  bH (bif f then
  bH (lw p0 p2 a) λg=>
  some g
  else
  some false) λb=>
  bH (bif b then
   some ((IntKind.i64.wrap (s1.1+1)):Int)
  else
   some (s1.1:Int)) λc=>
  some (.inr (.inr (c,((IntKind.i64.wrap (s1.2+1)):Int))))
 else
  some (.inr (.inl (s1.1,s1.2)))
def kr (p0:l7Game) (p1:(List Bool)) (p2:Int):Option (Int):=
 bH (bU (gD p0 p1 p2) (2 ^ 64) ((0:Int),(0:Int))) λa=>
 aft (λr=>some r) (λb=>
  some (b.1:Int)) a
def eu (p0:l7Game) (p1:(List Bool)) (c:(List Bool)) (a:Int) (s1:(List Int)×(List Bool)×(List Int)):Option ((List Bool)⊕(((List Int)×(List Bool)×(List Int))⊕((List Int)×(List Bool)×(List Int)))):=
 bH (idx p1 a) λf=>
 bH (bif f then
  bH (kr p0 p1 a) λg=>
  bH (idx s1.2.2 a) λn=>
  bH (setI s1.2.2 a g) λl=>
  some (l:(List Int))
 else
  some (s1.2.2:(List Int))) λe=>
 bH (idx p1 a) λi=>
 bH (bif i then
 bH (idx c a) λj=>
 some j
 else
 some false) λd=>
 bH (bif d then
  bH (idx s1.2.1 a) λo=>
  bH (setI s1.2.1 a true) λm=>
  bH (appS 8 s1.1 ([a]:List Int)) λk=>
  some (k,m)
 else
  some (s1.1,s1.2.1)) λb=>
 some (.inr (.inr (b.1,b.2,e)))
def dR (p0:l7Game) (p1:(List Bool)) (p2:Int) (c:Int) (a:(List Int)×Int×(List Bool)×(List Int)):Option ((List Bool)⊕(((List Int)×Int×(List Bool)×(List Int))⊕((List Int)×Int×(List Bool)×(List Int)))):=
 bH (idx p0.prev c) λo=>
 bif decide (a.2.1<(o.length:Int)) then
  bH (idx p0.prev c) λp=>
  bH (idx p a.2.1) λb=>
  bH (idx p1 b) λq=>
  bH (bif (!q) then
  some true
  else
  bH (idx a.2.2.1 b) λr=>
  some r) λi=>
  bH (bif i then
  some true
  else
  bH (lw p0 b c) λj=>
  some (!j)) λf=>
  bif f then
   some (.inr (.inr (a.1,((IntKind.i64.wrap (a.2.1+1)):Int),a.2.2.1,a.2.2.2)))
  else
   bH (idx a.2.2.2 b) λk=>
   bH (idx a.2.2.2 b) λt=>
   bH (setI a.2.2.2 b (IntKind.i64.wrap (k-1))) λe=>
   bH (idx p0.owner b) λl=>
   bH (bif (l==p2) then
   some true
   else
   bH (idx e b) λm=>
   some (m==0)) λg=>
   bH (bif g then
    bH (idx a.2.2.1 b) λu=>
    bH (setI a.2.2.1 b true) λs=>
    bH (appS 8 a.1 ([b]:List Int)) λn=>
    some (n,s)
   else
    some (a.1,a.2.2.1)) λd=>
   some (.inr (.inr (d.1,((IntKind.i64.wrap (a.2.1+1)):Int),d.2,e)))
 else
  some (.inr (.inl (a.1,a.2.1,a.2.2.1,a.2.2.2)))
def fP (p0:l7Game) (p1:(List Bool)) (p2:Int) (a:(List Int)×Int×(List Bool)×(List Int)):Option ((List Bool)⊕(((List Int)×Int×(List Bool)×(List Int))⊕((List Int)×Int×(List Bool)×(List Int)))):=
 bif decide (a.2.1<(a.1.length:Int)) then
  bH (idx a.1 a.2.1) λd=>
  bH (bU (dR p0 p1 p2 d) (2 ^ 64) (a.1,(0:Int),a.2.2.1,a.2.2.2)) λc=>
  aft (λr=>some (.inl r)) (λb=>
   some (.inr (.inr (b.1,((IntKind.i64.wrap (a.2.1+1)):Int),b.2.2.1,b.2.2.2)))) c
 else
  some (.inr (.inl (a.1,a.2.1,a.2.2.1,a.2.2.2)))
def ie (p0:l7Game) (p1:(List Bool)) (p2:Int) (b:(List Bool)):Option ((List Bool)):=
 bH (mkS 1 (p1.length:Int) (false:Bool)) λf=>
 bH (mkS 8 (p1.length:Int) (0:Int)) λg=>
 bH (cntM (eu p0 p1 b) p1.length 0 ((([]:List Int):(List Int)),f,g)) λc=>
 aft (λr=>some r) (λa=>
  bH (bU (fP p0 p1 p2) (2 ^ 64) (a.1,(0:Int),a.2.1,a.2.2)) λd=>
  aft (λr=>some r) (λe=>
   some (e.2.2.1:(List Bool))) d) c
def jG (p0:(List Bool)) (p1:(List Bool)) (a:Int) (s1:(List Bool)):Option ((List Bool)⊕(((List Bool))⊕((List Bool)))):=
 bH (idx p0 a) λc=>
 bH (bif c then
 bH (idx p1 a) λd=>
 some (!d)
 else
 some false) λb=>
 bH (idx s1 a) λf=>
 bH (setI s1 a b) λe=>
 some (.inr (.inr (e:(List Bool))))
def lA (p0:(List Bool)) (p1:(List Bool)):Option ((List Bool)):=
 bH (mkS 1 (p0.length:Int) (false:Bool)) λc=>
 bH (cntM (jG p0 p1) p0.length 0 (c:(List Bool))) λa=>
 aft (λr=>some r) (λb=>
  some (b:(List Bool))) a
def kv (p0:l7Game) (p1:(List Bool)) (c:Int) (a:Int) (s1:(List Bool)):Option ((List Bool)⊕(((List Bool))⊕((List Bool)))):=
 bH (idx p1 a) λd=>
 bH (bif d then
 bH (idx p0.prio a) λe=>
 some (e==c)
 else
 some false) λb=>
 bH (idx s1 a) λg=>
 bH (setI s1 a b) λf=>
 some (.inr (.inr (f:(List Bool))))
def jh (f:Int) (g:(List Bool)) (i:(List Bool)) (a:Int) (b:Bool×(List Bool)):Option ((List Bool)⊕((Bool×(List Bool))⊕(Bool×(List Bool)))):=
 bH (idx g a) λj=>
 bH (bif j then
 bH (idx i a) λk=>
 some (k !=((Int.tmod f 2)==0))
 else
 some false) λd=>
 bH (idx b.2 a) λm=>
 bH (setI b.2 a d) λc=>
 bH (bif b.1 then
 some true
 else
 bH (idx c a) λl=>
 some l) λe=>
 some (.inr (.inr (e,c)))
def kw (p1:(List Bool)) (e:Int) (a:Int) (b:(List Bool)):Option ((List Bool)⊕(((List Bool))⊕((List Bool)))):=
 bH (idx p1 a) λd=>
 bH (bif d then
 some ((Int.tmod e 2)==0)
 else
 some false) λc=>
 bH (idx b a) λg=>
 bH (setI b a c) λf=>
 some (.inr (.inr (f:(List Bool))))
def kx (j:Int) (e:(List Bool)) (f:(List Bool)) (a:Int) (b:(List Bool)):Option ((List Bool)⊕(((List Bool))⊕((List Bool)))):=
 bH (idx f a) λg=>
 bH (bif g then
 some true
 else
 bH (idx e a) λi=>
 bH (bif i then
 some ((Int.tmod j 2)==1)
 else
 some false) λc=>
 some c) λd=>
 bH (idx b a) λl=>
 bH (setI b a d) λk=>
 some (.inr (.inr (k:(List Bool))))
def ji (rc:l7Game->(List Bool)->Option ((List Bool))) (p0:l7Game) (p1:(List Bool)):Option ((List Bool)):=
 bH (oc p0 p1) λa=>
 bH (mkS 1 (p1.length:Int) (false:Bool)) λb=>
 bif decide (a<0) then
  some (b:(List Bool))
 else
  bH (mkS 1 (p1.length:Int) (false:Bool)) λp=>
  bH (cntM (kv p0 p1 a) p1.length 0 (p:(List Bool))) λg=>
  aft (λr=>some r) (λl=>
   bH (ie p0 p1 (Int.tmod a 2) l) λq=>
   bH (lA p1 q) λe=>
   bH (rc p0 e) λs=>
   bH (mkS 1 (p1.length:Int) (false:Bool)) λt=>
   bH (cntM (jh a e s) p1.length 0 (false,t)) λi=>
   aft (λr=>some r) (λc=>
    bif (!c.1) then
     bH (cntM (kw p1 a) p1.length 0 (b:(List Bool))) λj=>
     aft (λr=>some r) (λm=>
      some (m:(List Bool))) j
    else
     bH (ie p0 p1 (IntKind.i64.wrap (1-(Int.tmod a 2))) c.2) λd=>
     bH (lA p1 d) λn=>
     bH (rc p0 n) λo=>
     bH (cntM (kx a d o) p1.length 0 (b:(List Bool))) λf=>
     aft (λr=>some r) (λk=>
      some (k:(List Bool))) f) i) g
def kJ:Nat->l7Game->(List Bool)->Option ((List Bool))
 | 0=>λ_ _=>none
 | n+1=>ji (kJ n)
def kz (b:(List Bool)) (a:Int) (s1:(List Int)):Option ((List Int)⊕(((List Int))⊕((List Int)))):=
 bH (idx b a) λc=>
 bH (iF c) λd=>
 bH (appS 8 s1 ([(IntKind.i64.wrap (1-d))]:List Int)) λe=>
 some (.inr (.inr (e:(List Int))))
def jn (p0:Parity):Option ((List Int)):=
 bH (oC p0) λe=>
 bH (ob (p0.Prio.length:Int)) λd=>
 bH (kJ (2 ^ 64) e d) λa=>
 bH (cntM (kz a) a.length 0 (([]:List Int):(List Int))) λb=>
 aft (λr=>some r) (λc=>
  some (c:(List Int))) b
def fR (p0:(List Int)) (p1:(List Int)) (a:Int) (s1:Unit):Option (Bool⊕((Unit)⊕(Unit))):=
 bH (idx p0 a) λb=>
 bH (idx p1 a) λc=>
 bif (b !=c) then
  some (.inl (false:Bool))
 else
  some (.inr (.inr ()))
def gF (p0:(List Int)) (p1:(List Int)):Option (Bool):=
 bif ((p0.length:Int) !=(p1.length:Int)) then
  some (false:Bool)
 else
  bH (cntM (fR p0 p1) p0.length 0 ()) λa=>
  aft (λr=>some r) (λb=>
   some (true:Bool)) a
def kh (p0:Parity) (p1:(List Int)):Option (Bool):=
 bH (mt p0 p1) λa=>
 bH (bif a.2 then
 bH (jn a.1) λc=>
 bH (jn p0) λd=>
 bH (gF c d) λe=>
 some e
 else
 some false) λb=>
 some (b:Bool)
def gE (p0:(List Int)) (p1:Int) (a:Int) (s1:(List Bool)):Option ((List Bool)⊕(((List Bool))⊕((List Bool)))):=
 bH (idx p0 a) λb=>
 bH (idx s1 a) λd=>
 bH (setI s1 a (b==p1)) λc=>
 some (.inr (.inr (c:(List Bool))))
def fQ (p0:(List Int)) (p1:Int):Option ((List Bool)):=
 bH (mkS 1 (p0.length:Int) (false:Bool)) λc=>
 bH (cntM (gE p0 p1) p0.length 0 (c:(List Bool))) λa=>
 aft (λr=>some r) (λb=>
  some (b:(List Bool))) a
def iQ (p1:(List Bool)) (p2:Int) (c:(List Bool)) (a:Int) (s1:Unit):Option (Bool⊕((Unit)⊕(Unit))):=
 bH (idx p1 a) λd=>
 bH (bif d then
 bH (idx c a) λe=>
 some (e !=(p2==0))
 else
 some false) λb=>
 bif b then
  some (.inl (false:Bool))
 else
  some (.inr (.inr ()))
def lz (p0:l7Game) (p1:(List Bool)) (p2:Int):Option (Bool):=
 bH (kJ (2 ^ 64) p0 p1) λb=>
 bH (cntM (iQ p1 p2 b) p1.length 0 ()) λa=>
 aft (λr=>some r) (λc=>
  some (true:Bool)) a
def jI (p0:l7Game) (p1:(List Bool)) (p2:Int) (s1:Int×(List Int)):Option ((Int×(List Int))⊕((Int×(List Int))⊕(Int×(List Int)))):=
 bH (idx p0.next p2) λc=>
 bif decide (s1.1<(c.length:Int)) then
  bH (idx p0.next p2) λd=>
  bH (idx d s1.1) λa=>
  bH (idx p1 a) λe=>
  bif (!e) then
   some (.inr (.inr (((IntKind.i64.wrap (s1.1+1)):Int),s1.2)))
  else
   bH (idx s1.2 p2) λi=>
   bH (setI s1.2 p2 a) λb=>
   bH (idx p0.owner p2) λf=>
   bH (lz (⟨p0.owner,p0.prio,p0.next,p0.prev,b⟩:l7Game) p1 f) λg=>
   bif g then
    some (.inl (a,b))
   else
    some (.inr (.inr (((IntKind.i64.wrap (s1.1+1)):Int),b)))
 else
  some (.inr (.inl (s1.1,s1.2)))
def mD (p0:l7Game) (p1:(List Bool)) (p2:Int):Option (Int×(List Int)):=
 bH (bU (jI p0 p1 p2) (2 ^ 64) ((0:Int),p0.pick)) λa=>
 aft (λr=>some r) (λb=>
  some (((-1):Int),b.2)) a
def gp (p0:Parity) (p1:(List Int)) (c:(List Int)) (a:Int) (s1:(List Int)):Option ((Answer×Bool)⊕(((List Int))⊕((List Int)))):=
 bH (idx p1 a) λd=>
 bH (bif (d !=(-1)) then
 bH (idx c a) λe=>
 bH (idx p0.Arena.Owner a) λf=>
 some (e !=f)
 else
 some false) λb=>
 bif b then
  some (.inl (((⟨([]:List Int),([]:List Int)⟩:Answer):Answer),false))
 else
  bH (idx p1 a) λg=>
  bH (idx s1 a) λj=>
  bH (setI s1 a g) λi=>
  some (.inr (.inr (i:(List Int))))
def gt (p0:Parity) (e:(List Int)) (b:l7Game) (i:(List Bool)) (j:(List Bool)) (a:Int) (c:(List Int)):Option ((Answer×Bool)⊕(((List Int))⊕((List Int)))):=
 bH (idx c a) λk=>
 bH (bif decide (0<=k) then
 some true
 else
 bH (idx e a) λl=>
 bH (idx p0.Arena.Owner a) λm=>
 some (l !=m)) λf=>
 bif f then
  some (.inr (.inr (c:(List Int))))
 else
  bH (idx e a) λn=>
  bH (bif (n==1) then
   some (j:(List Bool))
  else
   some (i:(List Bool))) λg=>
  bH (mD (⟨b.owner,b.prio,b.next,b.prev,c⟩:l7Game) g a) λd=>
  bH (idx d.2 a) λp=>
  bH (setI d.2 a d.1) λo=>
  some (.inr (.inr (o:(List Int))))
def ki (p0:Parity) (p1:(List Int)):Option (Answer×Bool):=
 bH (kh p0 p1) λg=>
 bif (!g) then
  some (((⟨([]:List Int),([]:List Int)⟩:Answer):Answer),false)
 else
  bH (jn p0) λa=>
  bH (oC p0) λb=>
  bH (cntM (gp p0 p1 a) p1.length 0 (b.pick:(List Int))) λc=>
  aft (λr=>some r) (λe=>
   bH (fQ a 0) λi=>
   bH (fQ a 1) λj=>
   bH (cntM (gt p0 a b i j) a.length 0 (e:(List Int))) λd=>
   aft (λr=>some r) (λf=>
    some (((⟨a,f⟩:Answer):Answer),true)) d) c
def kZ (p0:Parity):Option (Answer):=
 bH (ja p0) λc=>
 bif (!c) then
  some ((⟨([]:List Int),([]:List Int)⟩:Answer):Answer)
 else
  bH (mC (p0.Prio.length:Int)) λa=>
  bH (ki p0 a) λb=>
  some (b.1:Answer)
def iJ (p0:Sig):Option (Int):=
 bH (de p0.In) λa=>
 some (a:Int)
def kj (p0:Sig) (p1:Det) (p2:Int) (a:Int):Option (Int):=
 bH (jl p0 p1) λd=>
 bH (bif (!d) then
 some true
 else
 bH (dQ p2 0 (IntKind.i64.wrap ((p1.Next.length:Int)-1))) λe=>
 some (!e)) λb=>
 bH (bif b then
 some true
 else
 bH (dG p0) λf=>
 bH (dQ a (-1) (IntKind.i64.wrap (f-1))) λg=>
 some (!g)) λc=>
 bif c then
  some ((-1):Int)
 else
  bif (a==(-1)) then
   some (p2:Int)
  else
   bH (dG p0) λi=>
   some ((IntKind.i64.wrap ((IntKind.i64.wrap ((p1.Next.length:Int)+(IntKind.i64.wrap (p2 * i))))+a)):Int)
def kp (p0:Parity) (p1:(List Place)) (p2:Int) (b:Int) (s1:Int):Option (Int⊕((Int)⊕(Int))):=
 bH (idx p0.Arena.Next p2) λc=>
 bif decide (s1<(c.length:Int)) then
  bH (idx p0.Arena.Next p2) λd=>
  bH (idx d s1) λa=>
  bH (idx p1 a) λe=>
  bif (e.At==b) then
   some (.inl (a:Int))
  else
   some (.inr (.inr ((IntKind.i64.wrap (s1+1)):Int)))
 else
  some (.inr (.inl (s1:Int)))
def n8 (p0:Parity) (p1:(List Place)) (p2:Int) (a:Int):Option (Int):=
 bH (bU (kp p0 p1 p2 a) (2 ^ 64) (0:Int)) λb=>
 aft (λr=>some r) (λc=>
  some ((-1):Int)) b
def iG (p0:(List Int)) (p1:Int) (a:Int) (s1:Unit):Option (Int⊕((Unit)⊕(Unit))):=
 bH (idx p0 a) λb=>
 bif (b==p1) then
  some (.inl (a:Int))
 else
  some (.inr (.inr ()))
def ib (p0:(List Int)) (p1:Int):Option (Int):=
 bH (cntM (iG p0 p1) p0.length 0 ()) λa=>
 aft (λr=>some r) (λb=>
  some ((-1):Int)) a
def fI (p0:Sig) (p1:Det) (p2:Int) (a:Int) (b:Int) (s1:(List Int)×Int):Option ((List Int)⊕(((List Int)×Int)⊕((List Int)×Int))):=
 bH (de p0.Out) λd=>
 bif decide (s1.2<d) then
  bH (idx p1.Next p2) λe=>
  bH (i9 p0 a s1.2) λf=>
  bH (idx e f) λg=>
  bH (bif (g==b) then
   bH (appS 8 s1.1 ([s1.2]:List Int)) λi=>
   some (i:(List Int))
  else
   some (s1.1:(List Int))) λc=>
  some (.inr (.inr (c,((IntKind.i64.wrap (s1.2+1)):Int))))
 else
  some (.inr (.inl (s1.1,s1.2)))
def jw (p0:Sig) (p1:Det) (p2:Int) (a:Int) (d:Int):Option ((List Int)):=
 bH (jl p0 p1) λg=>
 bH (bif (!g) then
 some true
 else
 bH (dQ p2 0 (IntKind.i64.wrap ((p1.Next.length:Int)-1))) λi=>
 some (!i)) λb=>
 bH (bif b then
 some true
 else
 bH (dG p0) λj=>
 bH (dQ a 0 (IntKind.i64.wrap (j-1))) λk=>
 some (!k)) λc=>
 bif c then
  some (([]:List Int):(List Int))
 else
  bH (bU (fI p0 p1 p2 a d) (2 ^ 64) ((([]:List Int):(List Int)),(0:Int))) λe=>
  aft (λr=>some r) (λf=>
   some (f.1:(List Int))) e
def gh (p0:Sig) (p1:Det) (p2:Parity) (c:(List Place)) (f:(List Int)) (s1:(List Int)×Int×(List (List Int))×(List (List Int))) (e:Place) (a:(List Int)×(List Int)×(List Int)×Int):Option ((Machine×Bool)⊕(((List Int)×(List Int)×(List Int)×Int)⊕((List Int)×(List Int)×(List Int)×Int))):=
 bH (iJ p0) λg=>
 bif decide (a.2.2.2<g) then
  bH (idx a.1 s1.2.1) λi=>
  bH (kj p0 p1 e.At a.2.2.2) λj=>
  bH (n8 p2 c i j) λk=>
  bH (idx f k) λb=>
  bH (ib a.1 b) λl=>
  bH (bif decide (l<0) then
   bH (appS 8 a.1 ([b]:List Int)) λm=>
   some (m:(List Int))
  else
   some (a.1:(List Int))) λd=>
  bH (ib d b) λn=>
  bH (appS 8 a.2.1 ([n]:List Int)) λo=>
  bH (idx c b) λp=>
  bH (jw p0 p1 e.At a.2.2.2 p.At) λq=>
  bH (idx q 0) λr=>
  bH (appS 8 a.2.2.1 ([r]:List Int)) λs=>
  some (.inr (.inr (d,o,s,((IntKind.i64.wrap (a.2.2.2+1)):Int))))
 else
  some (.inr (.inl (a.1,a.2.1,a.2.2.1,a.2.2.2)))
def iK (p0:Sig) (p1:Det) (p2:Parity) (b:(List Place)) (c:(List Int)) (s1:(List Int)×Int×(List (List Int))×(List (List Int))):Option ((Machine×Bool)⊕(((List Int)×Int×(List (List Int))×(List (List Int)))⊕((List Int)×Int×(List (List Int))×(List (List Int))))):=
 bif decide (s1.2.1<(s1.1.length:Int)) then
  bH (idx s1.1 s1.2.1) λf=>
  bH (idx b f) λg=>
  bH (bU (gh p0 p1 p2 b c s1 g) (2 ^ 64) (s1.1,(([]:List Int):(List Int)),(([]:List Int):(List Int)),(0:Int))) λd=>
  aft (λr=>some (.inl r)) (λa=>
   bif decide (48<(a.1.length:Int)) then
    some (.inl (((⟨([]:List (List Int)),([]:List (List Int))⟩:Machine):Machine),false))
   else
    bH (appS 24 s1.2.2.1 ([a.2.1]:List (List Int))) λi=>
    bH (appS 24 s1.2.2.2 ([a.2.2.1]:List (List Int))) λe=>
    some (.inr (.inr (a.1,((IntKind.i64.wrap (s1.2.1+1)):Int),i,e)))) d
 else
  some (.inr (.inl (s1.1,s1.2.1,s1.2.2.1,s1.2.2.2)))
def mS (p0:Sig) (p1:Det) (p2:Parity) (b:(List Place)) (c:(List Int)):Option (Machine×Bool):=
 bH (bU (iK p0 p1 p2 b c) (2 ^ 64) ((([0]:List Int):(List Int)),(0:Int),(([]:List (List Int)):(List (List Int))),(([]:List (List Int)):(List (List Int))))) λd=>
 aft (λr=>some r) (λa=>
  some (((⟨a.2.2.1,a.2.2.2⟩:Machine):Machine),true)) d
def fE (p0:Sig) (p1:(List Clause)):Option (Machine×Bool):=
 bH (cU p0 p1) λb=>
 bif (!b.2) then
  some (((⟨([]:List (List Int)),([]:List (List Int))⟩:Machine):Machine),false)
 else
  bH (g9 p0 b.1) λc=>
  bif (!c.2.2) then
   some (((⟨([]:List (List Int)),([]:List (List Int))⟩:Machine):Machine),false)
  else
   bH (gM c.1 c.2.1 0) λa=>
   bif (!a.2.2) then
    some (((⟨([]:List (List Int)),([]:List (List Int))⟩:Machine):Machine),false)
   else
    bH (kZ a.1) λd=>
    bH (idx d.Won 0) λf=>
    bif (f !=0) then
     some (((⟨([]:List (List Int)),([]:List (List Int))⟩:Machine):Machine),false)
    else
     bH (mS p0 b.1 a.1 a.2.1 d.Plan) λe=>
     some (e.1,e.2)
def fF (p0:Sig) (p1:Machine) (a:Int) (s1:Unit):Option (Bool⊕((Unit)⊕(Unit))):=
 bH (idx p1.Next a) λe=>
 bH (iJ p0) λf=>
 bH (bif ((e.length:Int) !=f) then
 some true
 else
 bH (idx p1.Out a) λg=>
 bH (idx p1.Next a) λi=>
 some ((g.length:Int) !=(i.length:Int))) λb=>
 bH (bif b then
 some true
 else
 bH (idx p1.Next a) λj=>
 bH (gO j (p1.Next.length:Int)) λk=>
 some (!k)) λc=>
 bH (bif c then
 some true
 else
 bH (idx p1.Out a) λl=>
 bH (de p0.Out) λm=>
 bH (gO l m) λn=>
 some (!n)) λd=>
 bif d then
  some (.inl (false:Bool))
 else
  some (.inr (.inr ()))
def eF (p0:Sig) (p1:Machine):Option (Bool):=
 bH (jm p0) λd=>
 bH (bif (!d) then
 some true
 else
 bH (dQ (p1.Next.length:Int) 1 48) λe=>
 some (!e)) λa=>
 bH (bif a then
 some true
 else
 some ((p1.Out.length:Int) !=(p1.Next.length:Int))) λb=>
 bif b then
  some (false:Bool)
 else
  bH (cntM (fF p0 p1) p1.Next.length 0 ()) λc=>
  aft (λr=>some r) (λf=>
   some (true:Bool)) c
def iL (p0:Machine) (p1:(List Int)) (p2:Int) (a:Int) (s1:Int):Option (Bool⊕((Int)⊕(Int))):=
 bH (idx p0.Next p2) λc=>
 bif decide (s1<(c.length:Int)) then
  bH (idx p0.Out p2) λd=>
  bH (idx d s1) λe=>
  bH (idx p0.Out a) λf=>
  bH (idx f s1) λg=>
  bH (bif (e !=g) then
  some true
  else
  bH (idx p0.Next p2) λi=>
  bH (idx i s1) λj=>
  bH (idx p1 j) λk=>
  bH (idx p0.Next a) λl=>
  bH (idx l s1) λm=>
  bH (idx p1 m) λn=>
  some (k !=n)) λb=>
  bif b then
   some (.inl (false:Bool))
  else
   some (.inr (.inr ((IntKind.i64.wrap (s1+1)):Int)))
 else
  some (.inr (.inl (s1:Int)))
def ll (p0:Machine) (p1:(List Int)) (p2:Int) (a:Int):Option (Bool):=
 bH (idx p1 p2) λc=>
 bH (idx p1 a) λd=>
 bif (c !=d) then
  some (false:Bool)
 else
  bH (bU (iL p0 p1 p2 a) (2 ^ 64) (0:Int)) λb=>
  aft (λr=>some r) (λe=>
   some (true:Bool)) b
def gC (p0:Machine) (s1:(List Int)) (b:Int) (a:Int):Option ((List Int)⊕((Int)⊕(Int))):=
 bH (ll p0 s1 a b) λc=>
 bif (!c) then
  some (.inr (.inr ((IntKind.i64.wrap (a+1)):Int)))
 else
  some (.inr (.inl (a:Int)))
def eX (p0:Machine) (s1:(List Int)) (d:Int) (b:(List Int)):Option ((List Int)⊕(((List Int))⊕((List Int)))):=
 bH (bU (gC p0 s1 d) (2 ^ 64) (0:Int)) λa=>
 aft (λr=>some (.inl r)) (λc=>
  bH (appS 8 b ([c]:List Int)) λe=>
  some (.inr (.inr (e:(List Int))))) a
def eW (p0:Machine) (s1:(List Int)):Option ((List Int)⊕(((List Int))⊕((List Int)))):=
 bH (cntM (eX p0 s1) s1.length 0 (([]:List Int):(List Int))) λb=>
 aft (λr=>some (.inl r)) (λa=>
  bH (gF a s1) λc=>
  bif c then
   some (.inl (s1:(List Int)))
  else
   some (.inr (.inr (a:(List Int))))) b
def gP (p0:Machine):Option ((List Int)):=
 bH (mkS 8 (p0.Next.length:Int) (0:Int)) λb=>
 bH (bU (eW p0) (2 ^ 64) (b:(List Int))) λa=>
 aft (λr=>some r) (λc=>
  none) a
def eZ (p0:Machine) (d:(List Int)) (s1:(List Int)×Int×(List (List Int))×(List (List Int))) (a:(List Int)×(List Int)×Int):Option (Machine⊕(((List Int)×(List Int)×Int)⊕((List Int)×(List Int)×Int))):=
 bH (idx a.1 s1.2.1) λe=>
 bH (idx p0.Next e) λf=>
 bif decide (a.2.2<(f.length:Int)) then
  bH (idx a.1 s1.2.1) λg=>
  bH (idx p0.Next g) λi=>
  bH (idx i a.2.2) λj=>
  bH (idx d j) λb=>
  bH (ib a.1 b) λk=>
  bH (bif decide (k<0) then
   bH (appS 8 a.1 ([b]:List Int)) λl=>
   some (l:(List Int))
  else
   some (a.1:(List Int))) λc=>
  bH (ib c b) λm=>
  bH (appS 8 a.2.1 ([m]:List Int)) λn=>
  some (.inr (.inr (c,n,((IntKind.i64.wrap (a.2.2+1)):Int))))
 else
  some (.inr (.inl (a.1,a.2.1,a.2.2)))
def eY (p0:Machine) (c:(List Int)) (s1:(List Int)×Int×(List (List Int))×(List (List Int))):Option (Machine⊕(((List Int)×Int×(List (List Int))×(List (List Int)))⊕((List Int)×Int×(List (List Int))×(List (List Int))))):=
 bif decide (s1.2.1<(s1.1.length:Int)) then
  bH (bU (eZ p0 c s1) (2 ^ 64) (s1.1,(([]:List Int):(List Int)),(0:Int))) λb=>
  aft (λr=>some (.inl r)) (λa=>
   bH (appS 24 s1.2.2.1 ([a.2.1]:List (List Int))) λd=>
   bH (idx a.1 s1.2.1) λe=>
   bH (idx p0.Out e) λf=>
   bH (dA f) λg=>
   bH (appS 24 s1.2.2.2 ([g]:List (List Int))) λi=>
   some (.inr (.inr (a.1,((IntKind.i64.wrap (s1.2.1+1)):Int),d,i)))) b
 else
  some (.inr (.inl (s1.1,s1.2.1,s1.2.2.1,s1.2.2.2)))
def je (p0:Machine):Option (Machine):=
 bH (gP p0) λc=>
 bH (bU (eY p0 c) (2 ^ 64) ((([0]:List Int):(List Int)),(0:Int),(([]:List (List Int)):(List (List Int))),(([]:List (List Int)):(List (List Int))))) λb=>
 aft (λr=>some r) (λa=>
  some ((⟨a.2.2.1,a.2.2.2⟩:Machine):Machine)) b
def kR (p0:Machine) (p1:Machine) (a:Int) (s1:Unit):Option (Bool⊕((Unit)⊕(Unit))):=
 bH (idx p0.Next a) λc=>
 bH (idx p1.Next a) λd=>
 bH (gF c d) λe=>
 bH (bif (!e) then
 some true
 else
 bH (idx p0.Out a) λf=>
 bH (idx p1.Out a) λg=>
 bH (gF f g) λi=>
 some (!i)) λb=>
 bif b then
  some (.inl (false:Bool))
 else
  some (.inr (.inr ()))
def ny (p0:Machine) (p1:Machine):Option (Bool):=
 bif ((p0.Next.length:Int) !=(p1.Next.length:Int)) then
  some (false:Bool)
 else
  bH (cntM (kR p0 p1) p0.Next.length 0 ()) λa=>
  aft (λr=>some r) (λb=>
   some (true:Bool)) a
def gu (p0:Sig) (p1:Machine) (p2:Machine):Option (Bool):=
 bH (eF p0 p1) λg=>
 bH (bif g then
 bH (eF p0 p2) λc=>
 some c
 else
 some false) λa=>
 bH (bif a then
 bH (je p1) λd=>
 bH (je p2) λe=>
 bH (ny d e) λf=>
 some f
 else
 some false) λb=>
 some (b:Bool)
def iN (p0:l30Graph) (p1:Int) (p2:Int) (a:Int) (s1:Unit):Option ((Int×(List Int)×(List Int))⊕((Unit)⊕(Unit))):=
 bH (idx p0.of a) λc=>
 bH (bif (c==p1) then
 bH (idx p0.by0 a) λd=>
 some (d==p2)
 else
 some false) λb=>
 bif b then
  some (.inl (a,p0.of,p0.by0))
 else
  some (.inr (.inr ()))
def jf (p0:l30Graph) (p1:Int) (p2:Int):Option (Int×(List Int)×(List Int)):=
 bH (cntM (iN p0 p1 p2) p0.of.length 0 ()) λb=>
 aft (λr=>some r) (λd=>
  bH (appS 8 p0.of ([p1]:List Int)) λa=>
  bH (appS 8 p0.by0 ([p2]:List Int)) λc=>
  some (((IntKind.i64.wrap ((a.length:Int)-1)):Int),a,c)) b
def fb (p0:Sig) (p1:Machine) (p2:Det) (s1:Int×(List Int)×(List Int)×(List (List Int))×(List (List Int))) (a:(List Int)×(List Int)×Int×(List Int)×(List Int)):Option ((l30Graph×Bool)⊕(((List Int)×(List Int)×Int×(List Int)×(List Int))⊕((List Int)×(List Int)×Int×(List Int)×(List Int)))):=
 bH (iJ p0) λe=>
 bif decide (a.2.2.1<e) then
  bH (idx a.2.2.2.1 s1.1) λf=>
  bH (idx p1.Out f) λg=>
  bH (idx g a.2.2.1) λc=>
  bH (iJ p0) λd=>
  bH (idx a.2.2.2.1 s1.1) λi=>
  bH (idx p1.Next i) λj=>
  bH (idx j a.2.2.1) λk=>
  bH (idx a.2.2.2.2 s1.1) λl=>
  bH (idx p2.Next l) λm=>
  bH (idx m (IntKind.i64.wrap ((IntKind.i64.wrap (c * d))+a.2.2.1))) λn=>
  bH (jf (⟨a.2.2.2.1,a.2.2.2.2,s1.2.2.2.1,s1.2.2.2.2⟩:l30Graph) k n) λb=>
  bH (appS 8 a.1 ([b.1]:List Int)) λo=>
  bH (appS 8 a.2.1 ([(IntKind.i64.wrap ((IntKind.i64.wrap (c * d))+a.2.2.1))]:List Int)) λp=>
  some (.inr (.inr (o,p,((IntKind.i64.wrap (a.2.2.1+1)):Int),b.2.1,b.2.2)))
 else
  some (.inr (.inl (a.1,a.2.1,a.2.2.1,a.2.2.2.1,a.2.2.2.2)))
def fa (p0:Sig) (p1:Machine) (p2:Det) (s1:Int×(List Int)×(List Int)×(List (List Int))×(List (List Int))):Option ((l30Graph×Bool)⊕((Int×(List Int)×(List Int)×(List (List Int))×(List (List Int)))⊕(Int×(List Int)×(List Int)×(List (List Int))×(List (List Int))))):=
 bif decide (s1.1<(s1.2.1.length:Int)) then
  bH (bU (fb p0 p1 p2 s1) (2 ^ 64) ((([]:List Int):(List Int)),(([]:List Int):(List Int)),(0:Int),s1.2.1,s1.2.2.1)) λb=>
  aft (λr=>some (.inl r)) (λa=>
   bif decide (256<(a.2.2.2.1.length:Int)) then
    some (.inl (((⟨([]:List Int),([]:List Int),([]:List (List Int)),([]:List (List Int))⟩:l30Graph):l30Graph),false))
   else
    bH (appS 24 s1.2.2.2.1 ([a.1]:List (List Int))) λc=>
    bH (appS 24 s1.2.2.2.2 ([a.2.1]:List (List Int))) λd=>
    some (.inr (.inr (((IntKind.i64.wrap (s1.1+1)):Int),a.2.2.2.1,a.2.2.2.2,c,d)))) b
 else
  some (.inr (.inl (s1.1,s1.2.1,s1.2.2.1,s1.2.2.2.1,s1.2.2.2.2)))
def jg (p0:Sig) (p1:Machine) (p2:Det):Option (l30Graph×Bool):=
 bH (jf (⟨([]:List Int),([]:List Int),([]:List (List Int)),([]:List (List Int))⟩:l30Graph) 0 0) λb=>
 bH (bU (fa p0 p1 p2) (2 ^ 64) ((0:Int),b.2.1,b.2.2,(([]:List (List Int)):(List (List Int))),(([]:List (List Int)):(List (List Int))))) λc=>
 aft (λr=>some r) (λa=>
  some (((⟨a.2.1,a.2.2.1,a.2.2.2.1,a.2.2.2.2⟩:l30Graph):l30Graph),true)) c
def iO (p0:l30Graph) (p1:(List Int)) (a:Int) (s1:(List Int)):Option ((List Int)⊕(((List Int))⊕((List Int)))):=
 bH (idx p0.by0 a) λc=>
 bH (gJ p1 c) λd=>
 bH (bif d then
  bH (appS 8 s1 ([a]:List Int)) λe=>
  some (e:(List Int))
 else
  some (s1:(List Int))) λb=>
 some (.inr (.inr (b:(List Int))))
def jU (p0:l30Graph) (p1:(List Int)):Option ((List Int)):=
 bH (cntM (iO p0 p1) p0.by0.length 0 (([]:List Int):(List Int))) λa=>
 aft (λr=>some r) (λb=>
  some (b:(List Int))) a
def eK (p2:Det) (b:l30Graph×Bool) (a:Int) (s1:(List Pair)):Option (((List (List Int))×(List Pair)×Bool)⊕(((List Pair))⊕((List Pair)))):=
 bH (idx p2.Pairs a) λc=>
 bH (idx p2.Pairs a) λe=>
 bH (jU b.1 c.Ask) λd=>
 bH (jU b.1 e.Give) λf=>
 bH (appS 48 s1 ([(⟨d,f⟩:Pair)]:List Pair)) λg=>
 some (.inr (.inr (g:(List Pair))))
def mQ (p0:Sig) (p1:Machine) (p2:Det):Option ((List (List Int))×(List Pair)×Bool):=
 bH (eF p0 p1) λe=>
 bH (bif (!e) then
 some true
 else
 bH (jl p0 p2) λf=>
 some (!f)) λb=>
 bif b then
  some ((([]:List (List Int)):(List (List Int))),(([]:List Pair):(List Pair)),false)
 else
  bH (jg p0 p1 p2) λa=>
  bif (!a.2) then
   some ((([]:List (List Int)):(List (List Int))),(([]:List Pair):(List Pair)),false)
  else
   bH (cntM (eK p2 a) p2.Pairs.length 0 (([]:List Pair):(List Pair))) λc=>
   aft (λr=>some r) (λd=>
    some (a.1.next,d,true)) c
def iM (p0:Sig) (p1:Machine) (p2:(List Clause)):Option ((List (List Int))×(List Pair)×Bool):=
 bH (cU p0 p2) λb=>
 bif (!b.2) then
  some ((([]:List (List Int)):(List (List Int))),(([]:List Pair):(List Pair)),false)
 else
  bH (mQ p0 p1 b.1) λa=>
  some (a.1,a.2.1,a.2.2)
def jF (p1:(List Int)) (a:Int) (s1:(List Bool)):Option ((List Bool)⊕(((List Bool))⊕((List Bool)))):=
 bH (gJ p1 a) λb=>
 bH (appS 1 s1 ([(!b)]:List Bool)) λc=>
 some (.inr (.inr (c:(List Bool))))
def lu (p0:Int) (p1:(List Int)):Option ((List Bool)):=
 bH (rng p0) λ_=>
 bH (cntM (jF p1) (n6 (p0-0)) 0 (([]:List Bool):(List Bool))) λa=>
 aft (λr=>some r) (λb=>
  some (b:(List Bool))) a
def jB  (b:Int) (s1:(List Int)):Option ((List Int)⊕(((List Int))⊕((List Int)))):=
 bH (appS 8 s1 ([(-1)]:List Int)) λa=>
 some (.inr (.inr (a:(List Int))))
def dH (p0:(List (List Int))) (p1:(List Bool)) (c:Int) (b:Int) (a:Int×(List Int)):Option ((List Int)⊕((Int×(List Int))⊕(Int×(List Int)))):=
 bH (idx p0 b) λg=>
 bH (bif decide (a.1<(g.length:Int)) then
 bH (idx a.2 b) λi=>
 some (decide (i<0))
 else
 some false) λd=>
 bH (bif d then
 bH (idx p1 b) λj=>
 some j
 else
 some false) λe=>
 bif e then
  bH (idx p0 b) λk=>
  bH (idx k a.1) λl=>
  bH (idx a.2 l) λm=>
  bH (bif (m==c) then
   bH (idx a.2 b) λo=>
   bH (setI a.2 b (IntKind.i64.wrap (c+1))) λn=>
   some (n:(List Int))
  else
   some (a.2:(List Int))) λf=>
  some (.inr (.inr (((IntKind.i64.wrap (a.1+1)):Int),f)))
 else
  some (.inr (.inl (a.1,a.2)))
def jE (p0:(List (List Int))) (p1:(List Bool)) (e:Int) (d:Int) (c:(List Int)):Option ((List Int)⊕(((List Int))⊕((List Int)))):=
 bH (bU (dH p0 p1 e d) (2 ^ 64) ((0:Int),c)) λa=>
 aft (λr=>some (.inl r)) (λb=>
  some (.inr (.inr (b.2:(List Int))))) a
def jC (p0:(List (List Int))) (p1:(List Bool)) (d:Int) (b:(List Int)):Option ((List Int)⊕(((List Int))⊕((List Int)))):=
 bH (cntM (jE p0 p1 d) p0.length 0 (b:(List Int))) λa=>
 aft (λr=>some (.inl r)) (λc=>
  some (.inr (.inr (c:(List Int))))) a
def lr (p0:(List (List Int))) (p1:(List Bool)) (p2:Int):Option ((List Int)):=
 bH (cntM jB p0.length 0 (([]:List Int):(List Int))) λb=>
 aft (λr=>some r) (λa=>
  bH (idx a p2) λf=>
  bH (setI a p2 0) λe=>
  bH (cntM (jC p0 p1) p0.length 0 (e:(List Int))) λc=>
  aft (λr=>some r) (λd=>
   some (d:(List Int))) c) b
def eQ (p0:(List (List Int))) (p1:(List Int)) (p2:Int) (s1:Int):Option (Bool⊕((Int)⊕(Int))):=
 bH (idx p0 p2) λa=>
 bif decide (s1<(a.length:Int)) then
  bH (idx p0 p2) λb=>
  bH (idx b s1) λc=>
  bH (idx p1 c) λd=>
  bif decide (0<=d) then
   some (.inl (true:Bool))
  else
   some (.inr (.inr ((IntKind.i64.wrap (s1+1)):Int)))
 else
  some (.inr (.inl (s1:Int)))
def iP (p0:(List (List Int))) (p1:(List Int)) (p2:Int):Option (Bool):=
 bH (bU (eQ p0 p1 p2) (2 ^ 64) (0:Int)) λa=>
 aft (λr=>some r) (λb=>
  some (false:Bool)) a
def du (p0:(List (List Int))) (p1:Pair) (b:(List Bool)) (d:Int) (s1:Unit):Option (Int⊕((Unit)⊕(Unit))):=
 bH (idx p1.Ask d) λa=>
 bH (idx b a) λe=>
 bH (bif e then
 bH (lr p0 b a) λf=>
 bH (iP p0 f a) λg=>
 some g
 else
 some false) λc=>
 bif c then
  some (.inl (a:Int))
 else
  some (.inr (.inr ()))
def ic (p0:(List (List Int))) (p1:Pair):Option (Int):=
 bH (lu (p0.length:Int) p1.Give) λb=>
 bH (cntM (du p0 p1 b) p1.Ask.length 0 ()) λa=>
 aft (λr=>some r) (λc=>
  some ((-1):Int)) a
def eT (a:(List (List Int))×(List Pair)×Bool) (s1:(List Int)×Int):Option ((List Int)⊕(((List Int)×Int)⊕((List Int)×Int))):=
 bH (bif a.2.2 then
 some (decide (s1.2<(a.2.1.length:Int)))
 else
 some false) λb=>
 bif b then
  bH (idx a.2.1 s1.2) λd=>
  bH (ic a.1 d) λe=>
  bH (bif decide (0<=e) then
   bH (appS 8 s1.1 ([s1.2]:List Int)) λf=>
   some (f:(List Int))
  else
   some (s1.1:(List Int))) λc=>
  some (.inr (.inr (c,((IntKind.i64.wrap (s1.2+1)):Int))))
 else
  some (.inr (.inl (s1.1,s1.2)))
def kb (p0:Sig) (p1:Machine) (p2:(List Clause)):Option ((List Int)):=
 bH (iM p0 p1 p2) λc=>
 bH (bU (eT c) (2 ^ 64) ((([]:List Int):(List Int)),(0:Int))) λa=>
 aft (λr=>some r) (λb=>
  some (b.1:(List Int))) a
def kg (p0:Sig) (p1:Machine) (p2:(List Clause)):Option (Bool):=
 bH (iM p0 p1 p2) λb=>
 bH (bif b.2.2 then
 bH (kb p0 p1 p2) λc=>
 some ((c.length:Int)==0)
 else
 some false) λa=>
 some (a:Bool)
def ia (p0:Sig) (p1:Machine):Option (Machine):=
 bH (eF p0 p1) λb=>
 bif (!b) then
  some ((⟨([]:List (List Int)),([]:List (List Int))⟩:Machine):Machine)
 else
  bH (je p1) λa=>
  some (a:Machine)
def lL (p0:(List Int)):Option (Bool):=
 bH (uW p0) λp=>
 bif p then
  some (true:Bool)
 else
  bH (pC p0 933) λq=>
  bH (jq q 2) λb=>
  bH (dE b.1 1) λd=>
  bH (dE b.1 2) λa=>
  bH (fE (⟨1,1⟩:Sig) b.1) λc=>
  bH (bif d.2 then
  bH (bif (!a.2) then
  some true
  else
  some ((a.1.Next.length:Int) !=1)) λe=>
  bH (bif e then
  some true
  else
  bH (gu (⟨1,1⟩:Sig) d.1 a.1) λr=>
  some (!r)) λf=>
  some f
  else
  some false) λg=>
  bH (bif g then
  some true
  else
  bH (bif a.2 then
  some (!c.2)
  else
  some false) λi=>
  some i) λj=>
  bif j then
   some (false:Bool)
  else
   bH (bif a.2 then
   bH (kg (⟨1,1⟩:Sig) a.1 b.1) λs=>
   some (!s)
   else
   some false) λk=>
   bif k then
    some (false:Bool)
   else
    bH (bif (!c.2) then
    some true
    else
    bH (bif a.2 then
    bH (ia (⟨1,1⟩:Sig) c.1) λt=>
    some (decide ((a.1.Next.length:Int)<=(t.Next.length:Int)))
    else
    some false) λl=>
    some l) λm=>
    bH (bif m then
    some true
    else
    bH (bif (!a.2) then
    bH (ia (⟨1,1⟩:Sig) c.1) λu=>
    some (decide (2<(u.Next.length:Int)))
    else
    some false) λn=>
    some n) λo=>
    some (o:Bool)
def eA (p0:(List Int)) (p1:(List Int)) (a:Int) (s1:Unit):Option (Bool⊕((Unit)⊕(Unit))):=
 bH (idx p0 a) λb=>
 bH (idx p1 a) λc=>
 bif (b !=c) then
  some (.inl (false:Bool))
 else
  some (.inr (.inr ()))
def dW (p0:(List Int)) (p1:(List Int)):Option (Bool):=
 bif ((p0.length:Int) !=(p1.length:Int)) then
  some (false:Bool)
 else
  bH (cntM (eA p0 p1) p0.length 0 ()) λa=>
  aft (λr=>some r) (λb=>
   some (true:Bool)) a
def iV (p0:Machine) (b:Int) (c:Int) (a:(List Int)):Option ((List Int)⊕(((List Int))⊕((List Int)))):=
 bH (idx p0.Out b) λd=>
 bH (idx p0.Out c) λe=>
 bH (dW d e) λf=>
 bif f then
  bH (idx a b) λi=>
  bH (setI a b c) λg=>
  some (.inr (.inl (g:(List Int))))
 else
  some (.inr (.inr (a:(List Int))))
def fU (p0:Machine) (a:Int) (s1:(List Int)):Option ((List Int)⊕(((List Int))⊕((List Int)))):=
 bH (rng (IntKind.i64.wrap (a+1))) λ_=>
 bH (cntM (iV p0 a) (n6 ((IntKind.i64.wrap (a+1))-0)) 0 (s1:(List Int))) λb=>
 aft (λr=>some (.inl r)) (λc=>
  some (.inr (.inr (c:(List Int))))) b
def ff (p0:Machine) (a:(List Int)) (e:Int) (f:Int) (b:Int) (d:Bool):Option ((List Int)⊕((Bool)⊕(Bool))):=
 bH (bif d then
 bH (idx p0.Next e) λg=>
 bH (idx g b) λi=>
 bH (idx a i) λj=>
 bH (idx p0.Next f) λk=>
 bH (idx k b) λl=>
 bH (idx a l) λm=>
 some (j==m)
 else
 some false) λc=>
 some (.inr (.inr (c:Bool)))
def iW (p0:Machine) (c:(List Int)) (a:Int) (d:Int) (b:(List Int)):Option ((List Int)⊕(((List Int))⊕((List Int)))):=
 bH (idx c a) λg=>
 bH (idx c d) λi=>
 bH (idx p0.Next a) λj=>
 bH (cntM (ff p0 c a d) j.length 0 ((g==i):Bool)) λe=>
 aft (λr=>some (.inl r)) (λf=>
  bif f then
   bH (idx b a) λl=>
   bH (setI b a d) λk=>
   some (.inr (.inl (k:(List Int))))
  else
   some (.inr (.inr (b:(List Int))))) e
def fW (p0:Machine) (e:(List Int)) (a:Int) (c:(List Int)):Option ((List Int)⊕(((List Int))⊕((List Int)))):=
 bH (rng (IntKind.i64.wrap (a+1))) λ_=>
 bH (cntM (iW p0 e a) (n6 ((IntKind.i64.wrap (a+1))-0)) 0 (c:(List Int))) λb=>
 aft (λr=>some (.inl r)) (λd=>
  some (.inr (.inr (d:(List Int))))) b
def fV (p0:Machine) (a:(List Int)):Option ((List Int)⊕(((List Int))⊕((List Int)))):=
 bH (mkS 8 (a.length:Int) (0:Int)) λe=>
 bH (cntM (fW p0 a) a.length 0 (e:(List Int))) λc=>
 aft (λr=>some (.inl r)) (λb=>
  bH (dW b a) λd=>
  bif d then
   some (.inl (a:(List Int)))
  else
   some (.inr (.inr (b:(List Int))))) c
def gi (p0:Machine):Option ((List Int)):=
 bH (mkS 8 (p0.Next.length:Int) (0:Int)) λa=>
 bH (cntM (fU p0) a.length 0 (a:(List Int))) λb=>
 aft (λr=>some r) (λd=>
  bH (bU (fV p0) (2 ^ 64) (d:(List Int))) λc=>
  aft (λr=>some r) (λe=>
   none) c) b
def jL (c:(List Int)) (g:(List Int)) (f:Int) (a:(List Int)×(List Int)):Option (Machine⊕(((List Int)×(List Int))⊕((List Int)×(List Int)))):=
 bH (idx g f) λd=>
 bH (idx c d) λi=>
 bH (cM a.1 i) λe=>
 bH (bif decide (e<0) then
  bH (idx c d) λj=>
  bH (appS 8 a.1 ([j]:List Int)) λk=>
  some (k,((a.1.length:Int):Int))
 else
  some (a.1,e)) λb=>
 bH (appS 8 a.2 ([b.2]:List Int)) λl=>
 some (.inr (.inr (b.1,l)))
def c7 (p1:Machine) (d:(List Int)) (s1:(List Int)×Int×(List (List Int))×(List (List Int))):Option (Machine⊕(((List Int)×Int×(List (List Int))×(List (List Int)))⊕((List Int)×Int×(List (List Int))×(List (List Int))))):=
 bif decide (s1.2.1<(s1.1.length:Int)) then
  bH (idx s1.1 s1.2.1) λe=>
  bH (idx p1.Next e) λb=>
  bH (cntM (jL d b) b.length 0 (s1.1,(([]:List Int):(List Int)))) λc=>
  aft (λr=>some (.inl r)) (λa=>
   bH (appS 24 s1.2.2.1 ([a.2]:List (List Int))) λf=>
   bH (idx a.1 s1.2.1) λg=>
   bH (idx p1.Out g) λi=>
   bH (appS 8 ([]:List Int) i) λj=>
   bH (appS 24 s1.2.2.2 ([j]:List (List Int))) λk=>
   some (.inr (.inr (a.1,((IntKind.i64.wrap (s1.2.1+1)):Int),f,k)))) c
 else
  some (.inr (.inl (s1.1,s1.2.1,s1.2.2.1,s1.2.2.2)))
def kU (p0:Sig) (p1:Machine):Option (Machine):=
 bH (lJ p0) λe=>
 bH (bif (!e) then
 some true
 else
 bH (gW p0 p1) λf=>
 some (!f)) λc=>
 bif c then
  some ((⟨([]:List (List Int)),([]:List (List Int))⟩:Machine):Machine)
 else
  bH (gi p1) λb=>
  bH (idx b 0) λg=>
  bH (bU (c7 p1 b) (2 ^ 64) ((([g]:List Int):(List Int)),(0:Int),(([]:List (List Int)):(List (List Int))),(([]:List (List Int)):(List (List Int))))) λd=>
  aft (λr=>some r) (λa=>
   some ((⟨a.2.2.1,a.2.2.2⟩:Machine):Machine)) d
end Go.Proofs.YtleekpaohfpooaaGreat
