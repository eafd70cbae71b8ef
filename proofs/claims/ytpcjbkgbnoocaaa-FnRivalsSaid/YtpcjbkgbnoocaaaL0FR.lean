/- Functions on data that the laws speak of beside. By program. -/
import Derived.Test.YtpcjbkgbnoocaaaLwFR
import Derived.Lib.SlicesCompact
set_option linter.unusedVariables false
set_option linter.unusedSimpArgs false
set_option maxRecDepth 100000
open Option renaming bind → br, bind_some → bt
open List renaming getElem?_eq_getElem → bB, getElem?_eq_some_iff → gs, mem_of_getElem? → it, length_append → vx, mem_singleton → vy, length_cons → vA, length_nil → vC, mem_append → vF, length_map → vI
open Int renaming toNat → vu, toNat_natCast → vz
open Bool renaming and_eq_true → vv, not_true → vw, eq_iff_iff → vD
namespace Go.Proofs.Ytpcjbkgbnoocaaa
open Go Go.Wk Go.Proofs
structure solver where
 game:Parity
 preds:(List (List Int))
def fu (p0:Sig):Option (Int):=
 br (nn (IntKind.i64.wrap (p0.In+p0.Out))) λ_z8=>
 some ((IntKind.i64.wrap (1 * 2 ^ (min (vu (IntKind.i64.wrap (p0.In+p0.Out))) (IntKind.bits IntKind.i64)))):Int)
def mc (p0:(List Int)) (p1:Int) (v9:Int) (s1:Unit):Option (Bool⊕((Unit)⊕(Unit))):=
 br (idx p0 v9) λx12=>
 br (bif decide (x12<0) then
 some true
 else
 some (decide (p1<=x12))) λp20=>
 br (bif p20 then
 some true
 else
 br (bif decide (0<v9) then
 br (idx p0 (IntKind.i64.wrap (v9-1))) λx29=>
 some (decide (x12<=x29))
 else
 some false) λp32=>
 some p32) λp33=>
 bif p33 then
  some (.inl (false:Bool))
 else
  some (.inr (.inr ()))
def mJ (p0:(List Int)) (p1:Int):Option (Bool):=
 br (cntM (mc p0 p1) p0.length 0 ()) λq2=>
 aft (λr=>some r) (λs3=>
  some (true:Bool)) q2
def m5 (p0:Int):Option (Bool):=
 br (bif (p0==2) then
 some true
 else
 some (p0==3)) λp8=>
 br (bif p8 then
 some true
 else
 some (p0==7)) λp12=>
 some (p12:Bool)
def lO (p0:Sig) (p1:Clause):Option (Bool):=
 br (bif decide (p1.Kind<1) then
 some true
 else
 some (decide (7<p1.Kind))) λp12=>
 br (bif p12 then
 some true
 else
 br (fu p0) λx17=>
 br (mJ p1.A x17) λx18=>
 some (!x18)) λp20=>
 br (bif p20 then
 some true
 else
 br (fu p0) λx25=>
 br (mJ p1.B x25) λx26=>
 some (!x26)) λp28=>
 bif p28 then
  some (false:Bool)
 else
  br (m5 p1.Kind) λx31=>
  br (bif x31 then
  some true
  else
  some ((p1.B.length:Int)==0)) λp37=>
  some (p37:Bool)
def fS (p0:Clause) (c0:Sig):Option (Bool):=
 br (lO c0 p0) λx6=>
 some ((!x6):Bool)
def bT (p0:(List Clause)) (c1_0:Sig) (v8:Int) (s1:Unit):Option (Int⊕((Unit)⊕(Unit))):=
 br (idx p0 v8) λx14=>
 br (fS x14 c1_0) λx16=>
 bif x16 then
  some (.inl (v8:Int))
 else
  some (.inr (.inr ()))
def bW (p0:(List Clause)) (c1_0:Sig):Option (Int):=
 br (cntM (bT p0 c1_0) p0.length 0 ()) λq2=>
 aft (λr=>some r) (λs3=>
  some ((-1):Int)) q2
def bS (p0:(List Clause)) (c1_0:Sig):Option (Bool):=
 br (bW p0 c1_0) λx7=>
 some (decide (0<=x7):Bool)
def ko (p0:Sig) (p1:(List Clause)):Option (Bool):=
 br (bif decide ((p1.length:Int)<=3) then
 br (bS p1 p0) λx11=>
 some (!x11)
 else
 some false) λp13=>
 some (p13:Bool)
def dL (p0:(List Int)) (p1:Int) (v8:Int) (s1:Unit):Option (Int⊕((Unit)⊕(Unit))):=
 br (idx p0 v8) λx14=>
 bif (p1==x14) then
  some (.inl (v8:Int))
 else
  some (.inr (.inr ()))
def cH (p0:(List Int)) (p1:Int):Option (Int):=
 br (cntM (dL p0 p1) p0.length 0 ()) λq2=>
 aft (λr=>some r) (λs3=>
  some ((-1):Int)) q2
def bI (p0:(List Int)) (p1:Int):Option (Bool):=
 br (cH p0 p1) λx7=>
 some (decide (0<=x7):Bool)
def jv (p0:Int) (p1:Int) (p2:Bool) (p3:Bool):Option (Int):=
 br (bif p2 then
  some (1:Int)
 else
  some (0:Int)) λq1=>
 br (bif p3 then
  some ((true:Bool),(1:Int))
 else
  some ((false:Bool),(0:Int))) λq2=>
 bif (p0==1) then
  some ((if p1<(IntKind.i64.wrap (1-q1)) then(IntKind.i64.wrap (1-q1)) else p1):Int)
 else
  bif (p0==2) then
   br (bif (p1==2) then
   some true
   else
   br (bif (p1==1) then
   some (!q2.1)
   else
   some false) λp30=>
   some p30) λp31=>
   bif p31 then
    some (2:Int)
   else
    some (q1:Int)
  else
   bif (p0==3) then
    bif q2.1 then
     some (0:Int)
    else
     some ((if p1<q1 then q1 else p1):Int)
   else
    bif (p0==4) then
     some (q1:Int)
    else
     bif (p0==5) then
      some ((IntKind.i64.wrap (1-q1)):Int)
     else
      bif (p0==6) then
       some ((if p1<q1 then q1 else p1):Int)
      else
       some ((IntKind.i64.wrap ((IntKind.i64.wrap (2 * q1))+q2.2)):Int)
def gj (p1:Clause) (v44:Int) (v50:Int) (s10:(List Int)):Option (Det⊕(((List Int))⊕((List Int)))):=
 br (bI p1.A v50) λx60=>
 br (bI p1.B v50) λx64=>
 br (jv p1.Kind v44 x60 x64) λx65=>
 br (appS 8 s10 ([x65]:List Int)) λx67=>
 some (.inr (.inr (x67:(List Int))))
def gn (p0:Sig) (p1:Clause) (v44:Int) (s7:(List (List Int))):Option (Det⊕(((List (List Int)))⊕((List (List Int))))):=
 br (fu p0) λx49=>
 br (rng x49) λ_=>
 br (cntM (gj p1 v44) (vu (x49-0)) 0 (([]:List Int):(List Int))) λq11=>
 aft (λr=>some (.inl r)) (λs12=>
  br (appS 24 s7 ([s12]:List (List Int))) λx73=>
  some (.inr (.inr (x73:(List (List Int)))))) q11
def kM (p0:Sig) (p1:Clause):Option (Det):=
 br (bif (p1.Kind==1) then
  some (true:Bool)
 else
  some ((p1.Kind==5):Bool)) λq1=>
 br (bif q1 then
  some ((2:Int),(([1]:List Int):(List Int)),(([]:List Int):(List Int)))
 else
  br (bif (p1.Kind==2) then
   some ((3:Int),(([2]:List Int):(List Int)),(([]:List Int):(List Int)))
  else
   br (bif (p1.Kind==3) then
    some ((2:Int),(([1]:List Int):(List Int)),(([0]:List Int):(List Int)))
   else
    br (bif (p1.Kind==4) then
     some ((2:Int),(([0,1]:List Int):(List Int)),(([1]:List Int):(List Int)))
    else
     br (bif (p1.Kind==6) then
      some ((2:Int),(([0]:List Int):(List Int)),(([]:List Int):(List Int)))
     else
      some ((4:Int),(([2,3]:List Int):(List Int)),(([1,3]:List Int):(List Int)))) λq6=>
     some ((q6.1:Int),(q6.2.1:(List Int)),(q6.2.2:(List Int)))) λq5=>
    some ((q5.1:Int),(q5.2.1:(List Int)),(q5.2.2:(List Int)))) λq4=>
   some ((q4.1:Int),(q4.2.1:(List Int)),(q4.2.2:(List Int)))) λq3=>
  some ((q3.1:Int),(q3.2.1:(List Int)),(q3.2.2:(List Int)))) λq2=>
 br (rng q2.1) λ_=>
 br (cntM (gn p0 p1) (vu (q2.1-0)) 0 (([]:List (List Int)):(List (List Int)))) λq8=>
 aft (λr=>some r) (λs9=>
  some ((⟨s9,([(⟨q2.2.1,q2.2.2⟩:Pair)]:List Pair)⟩:Det):Det)) q8
def cB (p0:(List (Int×Int))) (p1:(Int×Int)) (v8:Int) (s1:Unit):Option (Int⊕((Unit)⊕(Unit))):=
 br (idx p0 v8) λx14=>
 bif ((p1.1==x14.1)&&(p1.2==x14.2)) then
  some (.inl (v8:Int))
 else
  some (.inr (.inr ()))
def cL (p0:(List (Int×Int))) (p1:(Int×Int)):Option (Int):=
 br (cntM (cB p0 p1) p0.length 0 ()) λq2=>
 aft (λr=>some r) (λs3=>
  some ((-1):Int)) q2
def gk (p1:Det) (s1:(List (Int×Int))×Int×(List (List Int))) (x47:(List Int)) (v50:Int) (s4:(List (Int×Int))×(List Int)):Option ((Det×Bool)⊕(((List (Int×Int))×(List Int))⊕((List (Int×Int))×(List Int)))):=
 br (idx x47 v50) λx53=>
 br (idx s4.1 s1.2.1) λx60=>
 br (idx p1.Next x60.2) λx63=>
 br (idx x63 v50) λx66=>
 br (cL s4.1 (x53,x66)) λx71=>
 br (bif decide (x71<0) then
  br (appS 16 s4.1 ([(x53,x66)]:List (Int×Int))) λx79=>
  some ((x79:(List (Int×Int))),((s4.1.length:Int):Int))
 else
  some ((s4.1:(List (Int×Int))),(x71:Int))) λq7=>
 br (appS 8 s4.2 ([q7.2]:List Int)) λx83=>
 some (.inr (.inr ((q7.1:(List (Int×Int))),(x83:(List Int)))))
def iI (p0:Det) (p1:Det) (s1:(List (Int×Int))×Int×(List (List Int))):Option ((Det×Bool)⊕(((List (Int×Int))×Int×(List (List Int)))⊕((List (Int×Int))×Int×(List (List Int))))):=
 bif decide (s1.2.1<(s1.1.length:Int)) then
  br (idx s1.1 s1.2.1) λx44=>
  br (idx p0.Next x44.1) λx47=>
  br (cntM (gk p1 s1 x47) x47.length 0 ((s1.1:(List (Int×Int))),(([]:List Int):(List Int)))) λq5=>
  aft (λr=>some (.inl r)) (λs6=>
   bif decide (48<(s6.1.length:Int)) then
    some (.inl (((⟨([]:List (List Int)),([]:List Pair)⟩:Det):Det),(false:Bool)))
   else
    br (appS 24 s1.2.2 ([s6.2]:List (List Int))) λx93=>
    some (.inr (.inr ((s6.1:(List (Int×Int))),((IntKind.i64.wrap (s1.2.1+1)):Int),(x93:(List (List Int))))))) q5
 else
  some (.inr (.inl ((s1.1:(List (Int×Int))),(s1.2.1:Int),(s1.2.2:(List (List Int))))))
def iP (s3:(List (Int×Int))×Int×(List (List Int))) (v99:Int) (x109:Pair) (v114:Int) (s14:(List Int)×(List Int)):Option ((Det×Bool)⊕(((List Int)×(List Int))⊕((List Int)×(List Int)))):=
 br (idx s3.1 v114) λx117=>
 br (idx ([x117.1,x117.2]:List Int) v99) λx122=>
 br (bI x109.Ask x122) λx124=>
 br (bif x124 then
  br (appS 8 s14.1 ([v114]:List Int)) λx129=>
  some (x129:(List Int))
 else
  some (s14.1:(List Int))) λq17=>
 br (idx ([x117.1,x117.2]:List Int) v99) λx134=>
 br (bI x109.Give x134) λx136=>
 br (bif x136 then
  br (appS 8 s14.2 ([v114]:List Int)) λx141=>
  some (x141:(List Int))
 else
  some (s14.2:(List Int))) λq18=>
 some (.inr (.inr ((q17:(List Int)),(q18:(List Int)))))
def dy (s3:(List (Int×Int))×Int×(List (List Int))) (v99:Int) (x102:Det) (v107:Int) (s11:(List Pair)):Option ((Det×Bool)⊕(((List Pair))⊕((List Pair)))):=
 br (idx x102.Pairs v107) λx109=>
 br (cntM (iP s3 v99 x109) s3.1.length 0 ((([]:List Int):(List Int)),(([]:List Int):(List Int)))) λq15=>
 aft (λr=>some (.inl r)) (λs16=>
  br (appS 48 s11 ([(⟨s16.1,s16.2⟩:Pair)]:List Pair)) λx148=>
  some (.inr (.inr (x148:(List Pair))))) q15
def cJ (p0:Det) (p1:Det) (s3:(List (Int×Int))×Int×(List (List Int))) (v99:Int) (s8:(List Pair)):Option ((Det×Bool)⊕(((List Pair))⊕((List Pair)))):=
 br (idx ([p0,p1]:List Det) v99) λx102=>
 br (cntM (dy s3 v99 x102) x102.Pairs.length 0 (s8:(List Pair))) λq12=>
 aft (λr=>some (.inl r)) (λs13=>
  some (.inr (.inr (s13:(List Pair))))) q12
def jg (p0:Det) (p1:Det):Option (Det×Bool):=
 bif decide (4<(IntKind.i64.wrap ((p0.Pairs.length:Int)+(p1.Pairs.length:Int)))) then
  some (((⟨([]:List (List Int)),([]:List Pair)⟩:Det):Det),(false:Bool))
 else
  br (bP (iI p0 p1) (2 ^ 64) ((([(0,0)]:List (Int×Int)):(List (Int×Int))),(0:Int),(([]:List (List Int)):(List (List Int))))) λq2=>
  aft (λr=>some r) (λs3=>
   br (cntM (cJ p0 p1 s3) ([p0,p1]:List Det).length 0 (([]:List Pair):(List Pair))) λq9=>
   aft (λr=>some r) (λs10=>
    some (((⟨s3.2.2,s10⟩:Det):Det),(true:Bool))) q9) q2
def fL (p0:Sig) (p1:(List Clause)) (v28:Int) (s1:(List (List Int))×(List Pair)):Option ((Det×Bool)⊕(((List (List Int))×(List Pair))⊕((List (List Int))×(List Pair)))):=
 br (idx p1 v28) λx30=>
 br (kM p0 x30) λx36=>
 br (jg (⟨s1.1,s1.2⟩:Det) x36) λx37=>
 bif (!x37.2) then
  some (.inl (((⟨([]:List (List Int)),([]:List Pair)⟩:Det):Det),(false:Bool)))
 else
  some (.inr (.inr ((x37.1.Next:(List (List Int))),(x37.1.Pairs:(List Pair)))))
def fv (p0:Sig) (p1:(List Clause)):Option (Det×Bool):=
 br (jn p0) λx12=>
 br (bif (!x12) then
 some true
 else
 br (ko p0 p1) λx17=>
 some (!x17)) λp19=>
 bif p19 then
  some (((⟨([]:List (List Int)),([]:List Pair)⟩:Det):Det),(false:Bool))
 else
  br (fu p0) λx22=>
  br (mkS 8 x22 (0:Int)) λx23=>
  br (cntM (fL p0 p1) p1.length 0 ((([x23]:List (List Int)):(List (List Int))),(([]:List Pair):(List Pair)))) λq2=>
  aft (λr=>some r) (λs3=>
   some (((⟨s3.1,s3.2⟩:Det):Det),(true:Bool))) q2
def cA (p0:(List Int)):Option (List Int):=
 if 0<p0.length/\p0.length<4611686018427387904 then some (p0.mergeSort λx y=>decide (x<=y)) else if p0.length=0 then some p0 else none
def d8 (p0:(List Int)):Option (List Int):=
 if 0<p0.length/\p0.length<4611686018427387904 then some (Go.Lib.compact p0) else none
def nM (p0:Pair):Option (Pair):=
 br (appS 8 ([]:List Int) p0.Ask) λx6=>
 br (appS 8 ([]:List Int) p0.Give) λx10=>
 some ((⟨x6,x10⟩:Pair):Pair)
def fZ (p1:Det) (x24:Int) (v26:Int) (v31:Int) (s4:(List Int)):Option ((Arena×(List Pair))⊕(((List Int))⊕((List Int)))):=
 br (appS 8 s4 ([(IntKind.i64.wrap ((IntKind.i64.wrap ((p1.Next.length:Int)+(IntKind.i64.wrap (v26 * x24))))+v31))]:List Int)) λx43=>
 some (.inr (.inr (x43:(List Int))))
def fX (p1:Det) (x24:Int) (v26:Int) (s1:(List Int)×(List (List Int))):Option ((Arena×(List Pair))⊕(((List Int)×(List (List Int)))⊕((List Int)×(List (List Int))))):=
 br (rng x24) λ_=>
 br (cntM (fZ p1 x24 v26) (vu (x24-0)) 0 (([]:List Int):(List Int))) λq5=>
 aft (λr=>some (.inl r)) (λs6=>
  br (appS 8 s1.1 ([1]:List Int)) λx48=>
  br (appS 24 s1.2 ([s6]:List (List Int))) λx54=>
  some (.inr (.inr ((x48:(List Int)),(x54:(List (List Int))))))) q5
def fN (p1:Det) (x24:Int) (v58:Int) (v62:Int) (v69:Int) (s13:(List Int)):Option ((Arena×(List Pair))⊕(((List Int))⊕((List Int)))):=
 br (idx p1.Next v58) λx76=>
 br (idx x76 (IntKind.i64.wrap ((IntKind.i64.wrap (v69 * x24))+v62))) λx83=>
 br (appS 8 s13 ([x83]:List Int)) λx86=>
 some (.inr (.inr (x86:(List Int))))
def gb (p0:Sig) (p1:Det) (x24:Int) (v58:Int) (v62:Int) (s10:(List Int)×(List (List Int))):Option ((Arena×(List Pair))⊕(((List Int)×(List (List Int)))⊕((List Int)×(List (List Int))))):=
 br (nn p0.Out) λ_z68=>
 br (rng (IntKind.i64.wrap (1 * 2 ^ (min (vu p0.Out) (IntKind.bits IntKind.i64))))) λ_=>
 br (cntM (fN p1 x24 v58 v62) (vu ((IntKind.i64.wrap (1 * 2 ^ (min (vu p0.Out) (IntKind.bits IntKind.i64))))-0)) 0 (([]:List Int):(List Int))) λq14=>
 aft (λr=>some (.inl r)) (λs15=>
  br (cA s15) λx89=>
  br (appS 8 s10.1 ([0]:List Int)) λx93=>
  br (d8 x89) λx98=>
  br (appS 24 s10.2 ([x98]:List (List Int))) λx100=>
  some (.inr (.inr ((x93:(List Int)),(x100:(List (List Int))))))) q14
def fV (p0:Sig) (p1:Det) (x24:Int) (v58:Int) (s7:(List Int)×(List (List Int))):Option ((Arena×(List Pair))⊕(((List Int)×(List (List Int)))⊕((List Int)×(List (List Int))))):=
 br (rng x24) λ_=>
 br (cntM (gb p0 p1 x24 v58) (vu (x24-0)) 0 ((s7.1:(List Int)),(s7.2:(List (List Int))))) λq11=>
 aft (λr=>some (.inl r)) (λs12=>
  some (.inr (.inr ((s12.1:(List Int)),(s12.2:(List (List Int))))))) q11
def fh (p1:Det) (v108:Int) (s16:(List Pair)):Option ((Arena×(List Pair))⊕(((List Pair))⊕((List Pair)))):=
 br (idx p1.Pairs v108) λx110=>
 br (nM x110) λx114=>
 br (appS 48 s16 ([x114]:List Pair)) λx116=>
 some (.inr (.inr (x116:(List Pair))))
def gT (p0:Sig) (p1:Det):Option (Arena×(List Pair)):=
 br (dV p0) λx24=>
 br (cntM (fX p1 x24) p1.Next.length 0 ((([]:List Int):(List Int)),(([]:List (List Int)):(List (List Int))))) λq2=>
 aft (λr=>some r) (λs3=>
  br (cntM (fV p0 p1 x24) p1.Next.length 0 ((s3.1:(List Int)),(s3.2:(List (List Int))))) λq8=>
  aft (λr=>some r) (λs9=>
   br (cntM (fh p1) p1.Pairs.length 0 (([]:List Pair):(List Pair))) λq17=>
   aft (λr=>some r) (λs18=>
    some (((⟨s9.1,s9.2⟩:Arena):Arena),(s18:(List Pair)))) q17) q8) q2
def ij (p0:(List Pair)) (p1:(List Int)) (p2:Int) (v15:Int) (s1:(List Int)×(List Int)):Option ((List Int)⊕(((List Int)×(List Int))⊕((List Int)×(List Int)))):=
 br (idx p1 v15) λx17=>
 br (idx p0 x17) λx21=>
 br (bI x21.Give p2) λx25=>
 br (bif x25 then
  br (appS 8 s1.1 ([x17]:List Int)) λx29=>
  some ((x29:(List Int)),(s1.2:(List Int)))
 else
  br (appS 8 s1.2 ([x17]:List Int)) λx33=>
  some ((s1.1:(List Int)),(x33:(List Int)))) λq4=>
 some (.inr (.inr ((q4.1:(List Int)),(q4.2:(List Int)))))
def jY (p0:(List Pair)) (p1:(List Int)) (p2:Int):Option ((List Int)):=
 br (cntM (ij p0 p1 p2) p1.length 0 ((([]:List Int):(List Int)),(([]:List Int):(List Int)))) λq2=>
 aft (λr=>some r) (λs3=>
  br (appS 8 s3.1 s3.2) λx37=>
  some (x37:(List Int))) q2
def kh (p0:Place) (c0:(List Pair)):Option ((List Int)):=
 br (jY c0 p0.Record p0.At) λx9=>
 some (x9:(List Int))
def la (p0:Place) (c0:Int) (c1:(List Int)):Option (Bool):=
 br (bif (p0.At==c0) then
 br (cj p0.Record c1) λx13=>
 some x13
 else
 some false) λp14=>
 some (p14:Bool)
def bY (p0:(List Place)) (c1_0:Int) (c1_1:(List Int)) (v8:Int) (s1:Unit):Option (Int⊕((Unit)⊕(Unit))):=
 br (idx p0 v8) λx14=>
 br (la x14 c1_0 c1_1) λx16=>
 bif x16 then
  some (.inl (v8:Int))
 else
  some (.inr (.inr ()))
def cg (p0:(List Place)) (c1_0:Int) (c1_1:(List Int)):Option (Int):=
 br (cntM (bY p0 c1_0 c1_1) p0.length 0 ()) λq2=>
 aft (λr=>some r) (λs3=>
  some ((-1):Int)) q2
def mW (p0:(List Place)) (p1:Int) (p2:(List Int)):Option (Int):=
 br (cg p0 p1 p2) λx9=>
 some (x9:Int)
def ig (p0:(List Pair)) (p1:(List Int)) (p2:Int) (v13:Int) (s1:Int×Int):Option (Int⊕((Int×Int)⊕(Int×Int))):=
 br (idx p1 v13) λx16=>
 br (idx p0 x16) λx20=>
 br (bI x20.Ask p2) λx24=>
 br (bif x24 then
  some (v13:Int)
 else
  some (s1.1:Int)) λq4=>
 br (idx p0 x16) λx28=>
 br (bI x28.Give p2) λx32=>
 br (bif x32 then
  some (v13:Int)
 else
  some (s1.2:Int)) λq5=>
 some (.inr (.inr ((q4:Int),(q5:Int))))
def j0 (p0:(List Pair)) (p1:(List Int)) (p2:Int):Option (Int):=
 br (cntM (ig p0 p1 p2) p1.length 0 (((-1):Int),((-1):Int))) λq2=>
 aft (λr=>some r) (λs3=>
  br (bif decide (s3.1<0) then
  some (decide (s3.2<0))
  else
  some false) λp41=>
  bif p41 then
   some (0:Int)
  else
   bif decide (s3.2<s3.1) then
    some ((IntKind.i64.wrap ((IntKind.i64.wrap (2 * s3.1))+1)):Int)
   else
    some ((IntKind.i64.wrap ((IntKind.i64.wrap (2 * s3.2))+2)):Int)) q2
def kr (p0:Place) (c0:(List Pair)):Option (Int):=
 br (j0 c0 p0.Record p0.At) λx9=>
 some (x9:Int)
def mh (p0:Parity) (p1:Int) (p2:Int) (p3:(List Int)):Option (Parity):=
 br (appS 8 p0.Arena.Owner ([p1]:List Int)) λx14=>
 br (appS 24 p0.Arena.Next ([p3]:List (List Int))) λx22=>
 br (appS 8 p0.Prio ([p2]:List Int)) λx29=>
 some ((⟨(⟨x14,x22⟩:Arena),x29⟩:Parity):Parity)
def bR (x35:(List Int)) (x41:(List Int)) (v44:Int) (s4:(List Place)×(List Int)):Option ((Parity×(List Place)×Bool)⊕(((List Place)×(List Int))⊕((List Place)×(List Int)))):=
 br (idx x41 v44) λx46=>
 br (mW s4.1 x46 x35) λx51=>
 br (bif decide (x51<0) then
  br (appS 8 ([]:List Int) x35) λx60=>
  br (appS 32 s4.1 ([(⟨x46,x60⟩:Place)]:List Place)) λx63=>
  some ((x63:(List Place)),((s4.1.length:Int):Int))
 else
  some ((s4.1:(List Place)),(x51:Int))) λq7=>
 br (appS 8 s4.2 ([q7.2]:List Int)) λx67=>
 some (.inr (.inr ((q7.1:(List Place)),(x67:(List Int)))))
def bN (p0:Arena) (c2_0:(List Pair)) (s1:(List Place)×Int×(List Int)×(List (List Int))×(List Int)):Option ((Parity×(List Place)×Bool)⊕(((List Place)×Int×(List Int)×(List (List Int))×(List Int))⊕((List Place)×Int×(List Int)×(List (List Int))×(List Int)))):=
 bif decide (s1.2.1<(s1.1.length:Int)) then
  br (idx s1.1 s1.2.1) λx31=>
  br (kh x31 c2_0) λx35=>
  br (idx p0.Next x31.At) λx41=>
  br (cntM (bR x35 x41) x41.length 0 ((s1.1:(List Place)),(([]:List Int):(List Int)))) λq5=>
  aft (λr=>some (.inl r)) (λs6=>
   bif decide (256<(s6.1.length:Int)) then
    some (.inl (((⟨(⟨([]:List Int),([]:List (List Int))⟩:Arena),([]:List Int)⟩:Parity):Parity),(([]:List Place):(List Place)),(false:Bool)))
   else
    br (cA s6.2) λx74=>
    br (idx p0.Owner x31.At) λx80=>
    br (kr x31 c2_0) λx84=>
    br (mh (⟨(⟨s1.2.2.1,s1.2.2.2.1⟩:Arena),s1.2.2.2.2⟩:Parity) x80 x84 x74) λx86=>
    some (.inr (.inr ((s6.1:(List Place)),((IntKind.i64.wrap (s1.2.1+1)):Int),(x86.Arena.Owner:(List Int)),(x86.Arena.Next:(List (List Int))),(x86.Prio:(List Int)))))) q5
 else
  some (.inr (.inl ((s1.1:(List Place)),(s1.2.1:Int),(s1.2.2.1:(List Int)),(s1.2.2.2.1:(List (List Int))),(s1.2.2.2.2:(List Int)))))
def cE (p0:Arena) (p1:Place) (c2_0:(List Pair)):Option (Parity×(List Place)×Bool):=
 br (bP (bN p0 c2_0) (2 ^ 64) ((([p1]:List Place):(List Place)),(0:Int),(([]:List Int):(List Int)),(([]:List (List Int)):(List (List Int))),(([]:List Int):(List Int)))) λq2=>
 aft (λr=>some r) (λs3=>
  some (((⟨(⟨s3.2.2.1,s3.2.2.2.1⟩:Arena),s3.2.2.2.2⟩:Parity):Parity),(s3.1:(List Place)),(true:Bool))) q2
def lD  (v15:Int) (s1:(List Int)):Option ((Parity×(List Place)×Bool)⊕(((List Int))⊕((List Int)))):=
 br (appS 8 s1 ([v15]:List Int)) λx22=>
 some (.inr (.inr (x22:(List Int))))
def gH (p0:Arena) (p1:(List Pair)) (p2:Int):Option (Parity×(List Place)×Bool):=
 br (cntM lD p1.length 0 (([]:List Int):(List Int))) λq2=>
 aft (λr=>some r) (λs3=>
  br (cE p0 (⟨p2,s3⟩:Place) p1) λx29=>
  some ((x29.1:Parity),(x29.2.1:(List Place)),(x29.2.2:Bool))) q2
def sZ (p0:Arena):Option (Int):=
 some ((p0.Owner.length:Int):Int)
def lS  (v4:Int) (s1:(List Int)):Option ((List Int)⊕(((List Int))⊕((List Int)))):=
 br (appS 8 s1 ([v4]:List Int)) λx20=>
 some (.inr (.inr (x20:(List Int))))
def rT (p0:Int):Option ((List Int)):=
 br (bif decide (p0<0) then
 some true
 else
 some (decide (256<p0))) λp10=>
 bif p10 then
  some (([]:List Int):(List Int))
 else
  br (rng p0) λ_=>
  br (cntM lS (vu (p0-0)) 0 (([]:List Int):(List Int))) λq2=>
  aft (λr=>some r) (λs3=>
   some (s3:(List Int))) q2
def pY (p0:Arena):Option ((List Int)):=
 br (sZ p0) λx4=>
 br (rT x4) λx5=>
 some (x5:(List Int))
def kg (v15:Int) (x18:(List Int)) (v22:Int) (s4:(List (List Int))):Option ((List (List Int))⊕(((List (List Int)))⊕((List (List Int))))):=
 br (idx x18 v22) λx24=>
 br (idx s4 x24) λx30=>
 br (appS 8 x30 ([v15]:List Int)) λx34=>
 br (idx s4 x24) λx35=>
 br (setI s4 x24 (x34:(List Int))) λy347=>
 some (.inr (.inr (y347:(List (List Int)))))
def kc (p0:Arena) (v15:Int) (s1:(List (List Int))):Option ((List (List Int))⊕(((List (List Int)))⊕((List (List Int))))):=
 br (idx p0.Next v15) λx18=>
 br (cntM (kg v15 x18) x18.length 0 (s1:(List (List Int)))) λq5=>
 aft (λr=>some (.inl r)) (λs6=>
  some (.inr (.inr (s6:(List (List Int)))))) q5
def mP (p0:Arena):Option ((List (List Int))):=
 br (mkS 24 (p0.Owner.length:Int) (([]:List Int):(List Int))) λx11=>
 br (cntM (kc p0) p0.Next.length 0 (x11:(List (List Int)))) λq2=>
 aft (λr=>some r) (λs3=>
  some (s3:(List (List Int)))) q2
def kK (p1:(List Int)) (v14:Int) (s1:(List Bool)):Option ((List Bool)⊕(((List Bool))⊕((List Bool)))):=
 br (idx p1 v14) λx16=>
 br (idx s1 x16) λx20=>
 br (setI s1 x16 true) λy350=>
 some (.inr (.inr (y350:(List Bool))))
def n6 (p0:Arena) (p1:(List Int)):Option ((List Bool)):=
 br (mkS 1 (p0.Owner.length:Int) (false:Bool)) λx11=>
 br (cntM (kK p1) p1.length 0 (x11:(List Bool))) λq2=>
 aft (λr=>some r) (λs3=>
  some (s3:(List Bool))) q2
def kW (p0:(List Bool)) (v9:Int) (s1:(List Int)):Option ((List Int)⊕(((List Int))⊕((List Int)))):=
 br (idx p0 v9) λx12=>
 br (bif x12 then
  br (appS 8 s1 ([v9]:List Int)) λx18=>
  some (x18:(List Int))
 else
  some (s1:(List Int))) λq4=>
 some (.inr (.inr (q4:(List Int))))
def gZ (p0:(List Bool)):Option ((List Int)):=
 br (cntM (kW p0) p0.length 0 (([]:List Int):(List Int))) λq2=>
 aft (λr=>some r) (λs3=>
  some (s3:(List Int))) q2
def mb (p0:Parity) (p1:(List Int)) (v10:Int) (s1:Int):Option (Int⊕((Int)⊕(Int))):=
 br (idx p1 v10) λx12=>
 br (idx p0.Prio x12) λx18=>
 some (.inr (.inr ((if s1<x18 then x18 else s1):Int)))
def oO (p0:Parity) (p1:(List Int)):Option (Int):=
 br (cntM (mb p0 p1) p1.length 0 ((-1):Int)) λq2=>
 aft (λr=>some r) (λs3=>
  some (s3:Int)) q2
def cS (p2:(List Bool)) (x43:Int) (x79:(List Int)) (v82:Int) (s8:(List Int)):Option ((List Bool)⊕(((List Int))⊕((List Int)))):=
 br (idx x79 v82) λx84=>
 br (idx p2 x84) λx88=>
 br (bif x88 then
  br (idx s8 x43) λx92=>
  br (idx s8 x43) λx95=>
  br (setI s8 x43 (IntKind.i64.wrap (x92+1))) λy363=>
  some (y363:(List Int))
 else
  some (s8:(List Int))) λq11=>
 some (.inr (.inr (q11:(List Int))))
def eI (p0:solver) (p1:Int) (p2:(List Bool)) (x38:(List Int)) (v41:Int) (s4:(List Int)×(List Bool)×(List Int)):Option ((List Bool)⊕(((List Int)×(List Bool)×(List Int))⊕((List Int)×(List Bool)×(List Int)))):=
 br (idx x38 v41) λx43=>
 br (idx s4.2.1 x43) λx47=>
 br (bif x47 then
 some true
 else
 br (idx p2 x43) λx52=>
 some (!x52)) λp55=>
 bif p55 then
  some (.inr (.inr ((s4.1:(List Int)),(s4.2.1:(List Bool)),(s4.2.2:(List Int)))))
 else
  br (idx p0.game.Arena.Owner x43) λx63=>
  bif (x63 !=p1) then
   br (idx s4.2.2 x43) λx69=>
   br (bif (x69==0) then
    br (idx p0.game.Arena.Next x43) λx79=>
    br (cntM (cS p2 x43 x79) x79.length 0 (s4.2.2:(List Int))) λq9=>
    aft (λr=>none) (λs10=>
     some (s10:(List Int))) q9
   else
    some (s4.2.2:(List Int))) λq7=>
   br (idx q7 x43) λx99=>
   br (idx q7 x43) λx102=>
   br (setI q7 x43 (IntKind.i64.wrap (x99-1))) λy364=>
   br (idx y364 x43) λx105=>
   bif decide (0<x105) then
    some (.inr (.inr ((s4.1:(List Int)),(s4.2.1:(List Bool)),(y364:(List Int)))))
   else
    br (idx s4.2.1 x43) λx110=>
    br (setI s4.2.1 x43 true) λy365=>
    br (appS 8 s4.1 ([x43]:List Int)) λx114=>
    some (.inr (.inr ((x114:(List Int)),(y365:(List Bool)),(y364:(List Int)))))
  else
   br (idx s4.2.1 x43) λx110=>
   br (setI s4.2.1 x43 true) λy365=>
   br (appS 8 s4.1 ([x43]:List Int)) λx114=>
   some (.inr (.inr ((x114:(List Int)),(y365:(List Bool)),(s4.2.2:(List Int)))))
def gJ (p0:solver) (p1:Int) (p2:(List Bool)) (s1:(List Int)×(List Bool)×(List Int)):Option ((List Bool)⊕(((List Int)×(List Bool)×(List Int))⊕((List Int)×(List Bool)×(List Int)))):=
 bif decide (0<(s1.1.length:Int)) then
  br (idx s1.1 0) λx29=>
  br (subS s1.1 1 (s1.1.length:Int)) λx32=>
  br (idx p0.preds x29) λx38=>
  br (cntM (eI p0 p1 p2 x38) x38.length 0 ((x32:(List Int)),(s1.2.1:(List Bool)),(s1.2.2:(List Int)))) λq5=>
  aft (λr=>some (.inl r)) (λs6=>
   some (.inr (.inr ((s6.1:(List Int)),(s6.2.1:(List Bool)),(s6.2.2:(List Int)))))) q5
 else
  some (.inr (.inl ((s1.1:(List Int)),(s1.2.1:(List Bool)),(s1.2.2:(List Int)))))
def gO (p0:solver) (p1:Int) (p2:(List Bool)) (p3:(List Bool)):Option ((List Bool)):=
 br (appS 1 ([]:List Bool) p3) λx19=>
 br (mkS 8 (p2.length:Int) (0:Int)) λx22=>
 br (gZ p3) λx24=>
 br (bP (gJ p0 p1 p2) (2 ^ 64) ((x24:(List Int)),(x19:(List Bool)),(x22:(List Int)))) λq2=>
 aft (λr=>some r) (λs3=>
  some (s3.2.1:(List Bool))) q2
def ki (p0:(List Bool)) (p1:(List Bool)) (v12:Int) (s1:(List Bool)):Option ((List Bool)⊕(((List Bool))⊕((List Bool)))):=
 br (idx p0 v12) λx19=>
 br (bif x19 then
 br (idx p1 v12) λx24=>
 some (!x24)
 else
 some false) λp27=>
 br (idx s1 v12) λx28=>
 br (setI s1 v12 p27) λy369=>
 some (.inr (.inr (y369:(List Bool))))
def fx (p0:(List Bool)) (p1:(List Bool)):Option ((List Bool)):=
 br (mkS 1 (p0.length:Int) (false:Bool)) λx9=>
 br (cntM (ki p0 p1) p0.length 0 (x9:(List Bool))) λq2=>
 aft (λr=>some r) (λs3=>
  some (s3:(List Bool))) q2
def db (p0:(List Bool)) (p1:Bool) (v8:Int) (s1:Unit):Option (Int⊕((Unit)⊕(Unit))):=
 br (idx p0 v8) λx14=>
 bif (p1==x14) then
  some (.inl (v8:Int))
 else
  some (.inr (.inr ()))
def gp (p0:(List Bool)) (p1:Bool):Option (Int):=
 br (cntM (db p0 p1) p0.length 0 ()) λq2=>
 aft (λr=>some r) (λs3=>
  some ((-1):Int)) q2
def cC (p0:(List Bool)) (p1:Bool):Option (Bool):=
 br (gp p0 p1) λx7=>
 some (decide (0<=x7):Bool)
def io (p0:solver) (x27:Int) (s1:(List Bool)) (v38:Int) (s4:(List Bool)):Option (((List Bool)×Int)⊕(((List Bool))⊕((List Bool)))):=
 br (idx s1 v38) λx45=>
 br (bif x45 then
 br (idx p0.game.Prio v38) λx54=>
 some (x54==x27)
 else
 some false) λp58=>
 br (idx s4 v38) λx59=>
 br (setI s4 v38 p58) λy358=>
 some (.inr (.inr (y358:(List Bool))))
def ie (rc:solver->(List Bool)->Option ((List Bool)×Int)) (p0:solver) (p1:(List Bool)) (x27:Int) (s1:(List Bool)):Option (((List Bool)×Int)⊕(((List Bool))⊕((List Bool)))):=
 br (mkS 1 (p1.length:Int) (false:Bool)) λx35=>
 br (cntM (io p0 x27 s1) x35.length 0 (x35:(List Bool))) λq5=>
 aft (λr=>some (.inl r)) (λs6=>
  br (gO p0 (Int.tmod x27 2) s1 s6) λx66=>
  br (fx s1 x66) λx67=>
  br (rc p0 x67) λx71=>
  br (bif (x71.2==(Int.tmod x27 2)) then
   br (fx x67 x71.1) λx80=>
   some (x80:(List Bool))
  else
   some (x71.1:(List Bool))) λq7=>
  br (cC q7 true) λx82=>
  bif (!x82) then
   some (.inl ((s1:(List Bool)),((Int.tmod x27 2):Int)))
  else
   br (gO p0 (IntKind.i64.wrap (1-(Int.tmod x27 2))) s1 q7) λx92=>
   br (fx s1 x92) λx93=>
   br (cC x93 true) λx95=>
   bif (!x95) then
    some (.inl ((x93:(List Bool)),((Int.tmod x27 2):Int)))
   else
    some (.inr (.inr (x93:(List Bool))))) q5
def er (rc:solver->(List Bool)->Option ((List Bool)×Int)) (p0:solver) (p1:(List Bool)):Option ((List Bool)×Int):=
 br (gZ p1) λx17=>
 bif ((x17.length:Int)==0) then
  some ((p1:(List Bool)),(0:Int))
 else
  br (oO p0.game x17) λx27=>
  br (appS 1 ([]:List Bool) p1) λx32=>
  br (bP (ie rc p0 p1 x27) (2 ^ 64) (x32:(List Bool))) λq2=>
  aft (λr=>some r) (λs3=>
   none) q2
def eN:Nat->solver->(List Bool)->Option ((List Bool)×Int)
 | 0=>λ_ _=>none
 | n+1=>er (eN n)
def nv (p0:Parity) (p1:(List Int)):Option ((List Int)×(List Int)):=
 br (mP p0.Arena) λx13=>
 br (n6 p0.Arena p1) λx19=>
 br (eN (2 ^ 64) (⟨p0,x13⟩:solver) x19) λx23=>
 bif (x23.2==0) then
  br (gZ x23.1) λx29=>
  br (fx x19 x23.1) λx32=>
  br (gZ x32) λx33=>
  some ((x29:(List Int)),(x33:(List Int)))
 else
  br (fx x19 x23.1) λx36=>
  br (gZ x36) λx37=>
  br (gZ x23.1) λx39=>
  some ((x37:(List Int)),(x39:(List Int)))
def kq (x17:(List Int)×(List Int)) (v22:Int) (s1:(List Int)):Option ((List Int)⊕(((List Int))⊕((List Int)))):=
 br (idx x17.2 v22) λx24=>
 br (idx s1 x24) λx28=>
 br (setI s1 x24 1) λy383=>
 some (.inr (.inr (y383:(List Int))))
def iy (p0:Parity):Option ((List Int)):=
 br (mkS 8 (p0.Prio.length:Int) (0:Int)) λx11=>
 br (pY p0.Arena) λx16=>
 br (nv p0 x16) λx17=>
 br (cntM (kq x17) x17.2.length 0 (x11:(List Int))) λq2=>
 aft (λr=>some r) (λs3=>
  some (s3:(List Int))) q2
def j8 (p0:Arena) (v25:Int) (s1:Unit):Option (Bool⊕((Unit)⊕(Unit))):=
 br (idx p0.Next v25) λx28=>
 br (idx p0.Owner v25) λx33=>
 br (bif decide (x33<0) then
 some true
 else
 br (idx p0.Owner v25) λx40=>
 some (decide (1<x40))) λp43=>
 br (bif p43 then
 some true
 else
 some (decide ((x28.length:Int)<1))) λp48=>
 br (bif p48 then
 some true
 else
 some (decide (16<(x28.length:Int)))) λp53=>
 br (bif p53 then
 some true
 else
 br (mJ x28 (p0.Owner.length:Int)) λx57=>
 some (!x57)) λp59=>
 bif p59 then
  some (.inl (false:Bool))
 else
  some (.inr (.inr ()))
def mS (p0:Arena):Option (Bool):=
 br (bif decide ((p0.Owner.length:Int)<1) then
 some true
 else
 some (decide (256<(p0.Owner.length:Int)))) λp14=>
 br (bif p14 then
 some true
 else
 some ((p0.Next.length:Int) !=(p0.Owner.length:Int))) λp21=>
 bif p21 then
  some (false:Bool)
 else
  br (cntM (j8 p0) p0.Next.length 0 ()) λq2=>
  aft (λr=>some r) (λs3=>
   some (true:Bool)) q2
def jt (p0:Parity) (v22:Int) (s1:Unit):Option (Bool⊕((Unit)⊕(Unit))):=
 br (idx p0.Prio v22) λx24=>
 br (bif decide (x24<0) then
 some true
 else
 some (decide (40<x24))) λp31=>
 bif p31 then
  some (.inl (false:Bool))
 else
  some (.inr (.inr ()))
def me (p0:Parity):Option (Bool):=
 br (mS p0.Arena) λx7=>
 br (bif (!x7) then
 some true
 else
 some ((p0.Prio.length:Int) !=(p0.Arena.Owner.length:Int))) λp18=>
 bif p18 then
  some (false:Bool)
 else
  br (cntM (jt p0) p0.Prio.length 0 ()) λq2=>
  aft (λr=>some r) (λs3=>
   some (true:Bool)) q2
def nc  (v11:Int) (s1:(List Int)):Option ((List Int)⊕(((List Int))⊕((List Int)))):=
 br (idx s1 v11) λx16=>
 br (setI s1 v11 (-1)) λy391=>
 some (.inr (.inr (y391:(List Int))))
def nR (p0:Arena):Option ((List Int)):=
 br (mkS 8 (p0.Owner.length:Int) (0:Int)) λx8=>
 br (cntM nc x8.length 0 (x8:(List Int))) λq2=>
 aft (λr=>some r) (λs3=>
  some (s3:(List Int))) q2
def jy (p0:Answer) (p1:Int) (v16:Int) (s1:(List Int)):Option ((List Int)⊕(((List Int))⊕((List Int)))):=
 br (idx p0.Won v16) λx19=>
 br (bif (x19==p1) then
  br (appS 8 s1 ([v16]:List Int)) λx27=>
  some (x27:(List Int))
 else
  some (s1:(List Int))) λq4=>
 some (.inr (.inr (q4:(List Int))))
def lM (p0:Answer) (p1:Int):Option ((List Int)):=
 bif decide (256<(p0.Won.length:Int)) then
  some (([]:List Int):(List Int))
 else
  br (cntM (jy p0 p1) p0.Won.length 0 (([]:List Int):(List Int))) λq2=>
  aft (λr=>some r) (λs3=>
   some (s3:(List Int))) q2
def iN (p0:(List (List Int))) (v9:Int) (s1:(List (List Int))):Option ((List (List Int))⊕(((List (List Int)))⊕((List (List Int))))):=
 br (idx p0 v9) λx11=>
 br (appS 8 ([]:List Int) x11) λx16=>
 br (appS 24 s1 ([x16]:List (List Int))) λx18=>
 some (.inr (.inr (x18:(List (List Int)))))
def na (p0:(List (List Int))):Option ((List (List Int))):=
 br (cntM (iN p0) p0.length 0 (([]:List (List Int)):(List (List Int)))) λq2=>
 aft (λr=>some r) (λs3=>
  some (s3:(List (List Int)))) q2
def kD (p0:Arena):Option (Arena):=
 br (appS 8 ([]:List Int) p0.Owner) λx6=>
 br (na p0.Next) λx9=>
 some ((⟨x6,x9⟩:Arena):Arena)
def kp (p1:(List Int)) (v12:Int) (s1:(List (List Int))):Option (Arena⊕(((List (List Int)))⊕((List (List Int))))):=
 br (idx p1 v12) λx15=>
 br (bif decide (0<=x15) then
  br (idx s1 v12) λx24=>
  br (setI s1 v12 (([x15]:List Int):(List Int))) λy408=>
  some (y408:(List (List Int)))
 else
  some (s1:(List (List Int)))) λq4=>
 some (.inr (.inr (q4:(List (List Int)))))
def mN (p0:Arena) (p1:(List Int)):Option (Arena):=
 br (kD p0) λx9=>
 br (cntM (kp p1) p1.length 0 (x9.Next:(List (List Int)))) λq2=>
 aft (λr=>some r) (λs3=>
  some ((⟨x9.Owner,s3⟩:Arena):Arena)) q2
def nK (p0:Parity) (p1:(List Int)):Option (Parity):=
 br (mN p0.Arena p1) λx8=>
 br (appS 8 ([]:List Int) p0.Prio) λx12=>
 some ((⟨(⟨x8.Owner,x8.Next⟩:Arena),x12⟩:Parity):Parity)
def gN (p0:Parity) (p2:(List Int)) (v19:Int) (x46:(List Int)) (x51:(List Int)) (v54:Int) (s4:(List Int)):Option (Answer⊕(((List Int))⊕((List Int)))):=
 br (idx x51 v54) λx56=>
 br (idx p2 x56) λx60=>
 br (idx p2 v19) λx64=>
 bif (x60 !=x64) then
  some (.inr (.inr (s4:(List Int))))
 else
  br (idx s4 v19) λx70=>
  br (setI s4 v19 x56) λy398=>
  br (nK p0 y398) λx74=>
  br (nv x74 x46) λx76=>
  br (idx p2 v19) λx81=>
  br (bif (x81==0) then
  some ((x76.2.length:Int)==0)
  else
  some false) λp88=>
  br (bif p88 then
  some true
  else
  br (idx p2 v19) λx92=>
  br (bif (x92==1) then
  some ((x76.1.length:Int)==0)
  else
  some false) λp99=>
  some p99) λp100=>
  bif p100 then
   some (.inr (.inl (y398:(List Int))))
  else
   br (idx y398 v19) λx103=>
   br (setI y398 v19 (-1)) λy411=>
   some (.inr (.inr (y411:(List Int))))
def jx (p0:Parity) (p2:(List Int)) (v19:Int) (s1:(List Int)):Option (Answer⊕(((List Int))⊕((List Int)))):=
 br (idx p2 v19) λx30=>
 br (idx p0.Arena.Owner v19) λx26=>
 br (bif (x26 !=x30) then
 some true
 else
 br (idx s1 v19) λx36=>
 some (decide (0<=x36))) λp39=>
 bif p39 then
  some (.inr (.inr (s1:(List Int))))
 else
  br (idx p2 v19) λx44=>
  br (lM (⟨p2,([]:List Int)⟩:Answer) x44) λx46=>
  br (idx p0.Arena.Next v19) λx51=>
  br (cntM (gN p0 p2 v19 x46 x51) x51.length 0 (s1:(List Int))) λq5=>
  aft (λr=>some (.inl r)) (λs6=>
   some (.inr (.inr (s6:(List Int))))) q5
def lY (p0:Parity) (p1:(List Int)) (p2:(List Int)):Option (Answer):=
 br (appS 8 ([]:List Int) p1) λx16=>
 br (cntM (jx p0 p2) x16.length 0 (x16:(List Int))) λq2=>
 aft (λr=>some r) (λs3=>
  br (appS 8 ([]:List Int) p2) λx108=>
  some ((⟨x108,s3⟩:Answer):Answer)) q2
def mg (p0:Parity):Option (Answer):=
 br (me p0) λx4=>
 bif (!x4) then
  some ((⟨([]:List Int),([]:List Int)⟩:Answer):Answer)
 else
  br (nR p0.Arena) λx10=>
  br (iy p0) λx12=>
  br (lY p0 x10 x12) λx13=>
  some (x13:Answer)
def jw (p0:Int) (c0:(List Place)) (c1:Int):Option (Bool):=
 br (idx c0 p0) λx7=>
 some ((x7.At==c1):Bool)
def ch (p0:(List Int)) (c1_0:(List Place)) (c1_1:Int) (v8:Int) (s1:Unit):Option (Int⊕((Unit)⊕(Unit))):=
 br (idx p0 v8) λx14=>
 br (jw x14 c1_0 c1_1) λx16=>
 bif x16 then
  some (.inl (v8:Int))
 else
  some (.inr (.inr ()))
def bX (p0:(List Int)) (c1_0:(List Place)) (c1_1:Int):Option (Int):=
 br (cntM (ch p0 c1_0 c1_1) p0.length 0 ()) λq2=>
 aft (λr=>some r) (λs3=>
  some ((-1):Int)) q2
def go (p0:Sig) (p1:Det) (p2:Parity) (p3:(List Place)) (x42:Place) (x50:Int) (x54:Place) (x60:Int) (v66:Int) (s4:(List Int)×(List Int)):Option (Rival⊕(((List Int)×(List Int))⊕((List Int)×(List Int)))):=
 br (idx p1.Next x42.At) λx72=>
 br (dV p0) λx76=>
 br (idx x72 (IntKind.i64.wrap ((IntKind.i64.wrap (v66 * x76))+(Int.tmod (IntKind.i64.wrap (x54.At-(p1.Next.length:Int))) x60)))) λx80=>
 br (idx p2.Arena.Next x50) λx86=>
 br (bX x86 p3 x80) λx89=>
 br (idx p2.Arena.Next x50) λx94=>
 br (idx x94 x89) λx97=>
 br (cH s4.1 x97) λx101=>
 br (bif decide (x101<0) then
  br (appS 8 s4.1 ([x97]:List Int)) λx109=>
  some ((x109:(List Int)),((s4.1.length:Int):Int))
 else
  some ((s4.1:(List Int)),(x101:Int))) λq7=>
 br (appS 8 s4.2 ([q7.2]:List Int)) λx113=>
 some (.inr (.inr ((q7.1:(List Int)),(x113:(List Int)))))
def fI (p0:Sig) (p1:Det) (p2:Parity) (p3:(List Place)) (x24:Answer) (s1:(List Int)×Int×(List Int)×(List (List Int))):Option (Rival⊕(((List Int)×Int×(List Int)×(List (List Int)))⊕((List Int)×Int×(List Int)×(List (List Int))))):=
 bif decide (s1.2.1<(s1.1.length:Int)) then
  br (idx s1.1 s1.2.1) λx40=>
  br (idx p3 x40) λx42=>
  br (idx s1.1 s1.2.1) λx48=>
  br (idx x24.Plan x48) λx50=>
  br (idx p3 x50) λx54=>
  br (dV p0) λx60=>
  br (nz x60) λ_z61=>
  br (nn p0.Out) λ_z65=>
  br (rng (IntKind.i64.wrap (1 * 2 ^ (min (vu p0.Out) (IntKind.bits IntKind.i64))))) λ_=>
  br (cntM (go p0 p1 p2 p3 x42 x50 x54 x60) (vu ((IntKind.i64.wrap (1 * 2 ^ (min (vu p0.Out) (IntKind.bits IntKind.i64))))-0)) 0 ((s1.1:(List Int)),(([]:List Int):(List Int)))) λq5=>
  aft (λr=>some (.inl r)) (λs6=>
   br (appS 8 s1.2.2.1 ([(Int.tmod (IntKind.i64.wrap (x54.At-(p1.Next.length:Int))) x60)]:List Int)) λx119=>
   br (appS 24 s1.2.2.2 ([s6.2]:List (List Int))) λx125=>
   some (.inr (.inr ((s6.1:(List Int)),((IntKind.i64.wrap (s1.2.1+1)):Int),(x119:(List Int)),(x125:(List (List Int))))))) q5
 else
  some (.inr (.inl ((s1.1:(List Int)),(s1.2.1:Int),(s1.2.2.1:(List Int)),(s1.2.2.2:(List (List Int))))))
def kR (p0:Sig) (p1:Det) (p2:Parity) (p3:(List Place)):Option (Rival):=
 br (mg p2) λx24=>
 br (bP (fI p0 p1 p2 p3 x24) (2 ^ 64) ((([0]:List Int):(List Int)),(0:Int),(([]:List Int):(List Int)),(([]:List (List Int)):(List (List Int))))) λq2=>
 aft (λr=>some r) (λs3=>
  some ((⟨s3.2.2.1,s3.2.2.2⟩:Rival):Rival)) q2
def kE (p0:Sig) (p1:(List Clause)):Option (Rival×Bool):=
 br (fv p0 p1) λx15=>
 bif (!x15.2) then
  some (((⟨([]:List Int),([]:List (List Int))⟩:Rival):Rival),(false:Bool))
 else
  br (gT p0 x15.1) λx24=>
  br (gH x24.1 x24.2 0) λx30=>
  br (bif (!x30.2.2) then
  some true
  else
  br (iy x30.1) λx38=>
  br (idx x38 0) λx39=>
  some (x39 !=1)) λp42=>
  bif p42 then
   some (((⟨([]:List Int),([]:List (List Int))⟩:Rival):Rival),(false:Bool))
  else
   br (kR p0 x15.1 x30.1 x30.2.1) λx48=>
   some ((x48:Rival),(true:Bool))
theorem cN {p0:(List Clause)}{c1_0:Sig}(g:Clause->Bool) (hp:∀x∈p0,fS x c1_0=some (g x)):bW p0 c1_0=some (match p0.findIdx? g with | some i=>(i:Int) | none=> -1):=by
 unfold bW
 rw[ee (f:=bT p0 c1_0) g (λi=>(i:Int)) (xs:=p0) (λi x hx=>by
  unfold bT
  rw[bC,hx,bt,hp x (it hx),bt]
  cases g x <;> rfl),bt]
 cases p0.findIdx? g <;> rfl
theorem cI {p0:(List Clause)}{c1_0:Sig}(g:Clause->Bool) (hp:∀x∈p0,fS x c1_0=some (g x)):bS p0 c1_0=some (p0.any g):=by
 unfold bS
 rw[cN g hp,bt]
 exact congrArg some (kQ g p0)
theorem fB (p0:List Int) (p1:Int):cH p0 p1=some (match p0.findIdx? (λx=>p1==x) with | some i=>(i:Int) | none=> -1):=by
 unfold cH
 rw[ee (f:=dL p0 p1) (λx=>p1==x) (λi=>(i:Int)) (xs:=p0) (λi x hx=>by
  unfold dL
  simp only[bC,hx,bt]
  cases p1==x <;> rfl),bt]
 cases p0.findIdx? (λx=>p1==x) <;> rfl
theorem cX (p0:List Int) (p1:Int):bI p0 p1=some (p0.any (λx=>p1==x)):=by
 unfold bI
 rw[fB,bt]
 exact congrArg some (kQ _ p0)
theorem c9 {p0:(List Place)}{c1_0:Int}{c1_1:(List Int)}(g:Place->Bool) (hp:∀x∈p0,la x c1_0 c1_1=some (g x)):cg p0 c1_0 c1_1=some (match p0.findIdx? g with | some i=>(i:Int) | none=> -1):=by
 unfold cg
 rw[ee (f:=bY p0 c1_0 c1_1) g (λi=>(i:Int)) (xs:=p0) (λi x hx=>by
  unfold bY
  rw[bC,hx,bt,hp x (it hx),bt]
  cases g x <;> rfl),bt]
 cases p0.findIdx? g <;> rfl
theorem dY {p0:(List Int)}{c1_0:(List Place)}{c1_1:Int}(g:Int->Bool) (hp:∀x∈p0,jw x c1_0 c1_1=some (g x)):bX p0 c1_0 c1_1=some (match p0.findIdx? g with | some i=>(i:Int) | none=> -1):=by
 unfold bX
 rw[ee (f:=ch p0 c1_0 c1_1) g (λi=>(i:Int)) (xs:=p0) (λi x hx=>by
  unfold ch
  rw[bC,hx,bt,hp x (it hx),bt]
  cases g x <;> rfl),bt]
 cases p0.findIdx? g <;> rfl
end Go.Proofs.Ytpcjbkgbnoocaaa
set_option linter.unusedVariables false
set_option linter.unusedSimpArgs false
namespace Go.Proofs.Ytpcjbkgbnoocaaa
open Go Go.Wk Go.Proofs
theorem orE (b c:Bool):(bif b then some true else some c)=some (b||c):=by cases b <;> rfl
theorem andE (b c:Bool):(bif b then some c else some false)=some (b&&c):=by cases b <;> rfl
theorem nO {ρ ρ' σ τ:Type}{f:Int->σ->Option (ρ⊕(σ⊕σ))}{g:Int->τ->Option (ρ'⊕(τ⊕τ))}(R:Nat->σ->τ->Prop) (O:ρ->ρ'->Prop) (B:σ->τ->Prop) (N:Nat)
 (step:∀(j:Nat) s t,j<N->R j s t->∃o p,f j s=some o/\g j t=some p/\(match o,p with
  | .inl r,.inl r'=>O r r'
  | .inr (.inl s'),.inr (.inl t')=>B s' t'
  | .inr (.inr s'),.inr (.inr t')=>R (j+1) s' t'
  | _,_=>False)):
 ∀(k j:Nat) (s:σ) (t:τ),j+k=N->R j s t->∃o p,cntM f k j s=some o/\cntM g k j t=some p/\(match o,p with
  | .inl r,.inl r'=>O r r'
  | .inr s',.inr t'=>R N s' t'\/B s' t'
  | _,_=>False)
 | 0,j,s,t,hj,h=>⟨.inr s,.inr t,rfl,rfl,.inl (by rw[← hj];exact h)⟩
 | k+1,j,s,t,hj,h=>by
  obtain⟨o,p,ho,hp,hm⟩:=step j s t (by omega) h
  show ∃o p,br (f j s) _=some o/\br (g j t) _=some p/\_
  rw[ho,hp]
  match o,p,hm with
  | .inl r,.inl r',hm=>exact⟨.inl r,.inl r',rfl,rfl,hm⟩
  | .inr (.inl s'),.inr (.inl t'),hm=>exact⟨.inr s',.inr t',rfl,rfl,.inr hm⟩
  | .inr (.inr s'),.inr (.inr t'),hm=>
   obtain⟨o',p',h1,h2,h3⟩:=nO R O B N step k (j+1) s' t' (by omega) hm
   exact⟨o',p',h1,h2,h3⟩
theorem pu {ρ ρ' σ τ:Type}{f:Int->σ->Option (ρ⊕(σ⊕σ))}{g:Int->τ->Option (ρ'⊕(τ⊕τ))}(R:Nat->σ->τ->Prop) (N:Nat){s:σ}{t:τ}(h0:R 0 s t)
 (step:∀(j:Nat) s t,j<N->R j s t->∃s' t',f j s=some (.inr (.inr s'))/\g j t=some (.inr (.inr t'))/\R (j+1) s' t'):
 ∃s' t',cntM f N 0 s=some (.inr s')/\cntM g N 0 t=some (.inr t')/\R N s' t':=by
 obtain⟨o,p,h1,h2,h3⟩:=nO (f:=f) (g:=g) R (λ_ _=>False) (λ_ _=>False) N (λj s t hj hr=>by
  obtain⟨s',t',h4,h5,h6⟩:=step j s t hj hr
  exact⟨_,_,h4,h5,h6⟩) N 0 s t (by omega) h0
 match o,p,h3 with
 | .inr s',.inr t',h3=>exact⟨s',t',h1,h2,h3.resolve_right id⟩
theorem kO {ρ α:Type}{f:Int->Unit->Option (ρ⊕(Unit⊕Unit))}{r:ρ}(g:Nat->α->Bool){xs:List α}{n:Nat}(hn:n=xs.length) (h:∀(i:Nat) x,xs[i]? =some x->f (i:Int) ()=some (if g i x then .inr (.inr ()) else .inl r)):
 cntM f n 0 ()=some (if xs.zipIdx.all (λp=>g p.2 p.1) then .inr () else .inl r):=by
 subst hn
 have:=cU (f:=f) (r:=r) (λp:α×Nat=>g p.2 p.1) (xs:=xs.zipIdx) (n:=xs.length) (by simp) (λi x hx=>by
  rw[List.getElem?_zipIdx]at hx
  cases hy:xs[i]? with
  | none=>rw[hy]at hx;cases hx
  | some y=>
   rw[hy]at hx
   simp at hx
   subst hx
   exact h i y hy)
 exact this
theorem cm {ρ σ:Type}{f:σ->Option (ρ⊕(σ⊕σ))}(I:Nat->σ->Prop) (R:ρ->Prop) (B:σ->Prop) (N:Nat)
 (step:∀(j:Nat) s,I j s->∃o,f s=some o/\(match o with
  | .inl r=>R r
  | .inr (.inl s')=>B s'
  | .inr (.inr s')=>j<N/\I (j+1) s')):
 ∀(k j:Nat) (s:σ),N<k+j->I j s->(0<k)->∃o,bP f k s=some o/\(match o with
  | .inl r=>R r
  | .inr s'=>B s')
 | 0,_,_,_,_,h=>absurd h (Nat.lt_irrefl 0)
 | k+1,j,s,hk,h,_=>by
  obtain⟨o,ho,hm⟩:=step j s h
  show ∃o,br (f s) _=some o/\_
  rw[ho]
  match o,hm with
  | .inl r,hm=>exact⟨.inl r,rfl,hm⟩
  | .inr (.inl s'),hm=>exact⟨.inr s',rfl,hm⟩
  | .inr (.inr s'),hm=>
   obtain⟨o',h1,h2⟩:=cm I R B N step k (j+1) s' (by omega) hm.2 (by omega)
   exact⟨o',h1,h2⟩
theorem lw {ρ ρ' σ τ:Type}{f:σ->Option (ρ⊕(σ⊕σ))}{g:τ->Option (ρ'⊕(τ⊕τ))}(R:σ->τ->Prop) (μ:σ->Nat) (O:ρ->ρ'->Prop) (B:σ->τ->Prop)
 (step:∀s t,R s t->∃o p,f s=some o/\g t=some p/\(match o,p with
  | .inl r,.inl r'=>O r r'
  | .inr (.inl s'),.inr (.inl t')=>B s' t'
  | .inr (.inr s'),.inr (.inr t')=>R s' t'/\μ s'<μ s
  | _,_=>False)):
 ∀(k k':Nat) (s:σ) (t:τ),μ s<k->μ s<k'->R s t->∃o p,bP f k s=some o/\bP g k' t=some p/\(match o,p with
  | .inl r,.inl r'=>O r r'
  | .inr s',.inr t'=>B s' t'
  | _,_=>False)
 | 0,_,_,_,h,_,_=>absurd h (Nat.not_lt_zero _)
 | _,0,_,_,_,h,_=>absurd h (Nat.not_lt_zero _)
 | k+1,k'+1,s,t,hk,hk',h=>by
  obtain⟨o,p,ho,hp,hm⟩:=step s t h
  show ∃o p,br (f s) _=some o/\br (g t) _=some p/\_
  rw[ho,hp]
  match o,p,hm with
  | .inl r,.inl r',hm=>exact⟨.inl r,.inl r',rfl,rfl,hm⟩
  | .inr (.inl s'),.inr (.inl t'),hm=>exact⟨.inr s',.inr t',rfl,rfl,hm⟩
  | .inr (.inr s'),.inr (.inr t'),hm=>
   obtain⟨o',p',h1,h2,h3⟩:=lw R μ O B step k k' s' t' (by omega) (by omega) hm.1
   exact⟨o',p',h1,h2,h3⟩
theorem oh {x:Int}(h0:0<=x) (h1:x<9223372036854775808):(BitVec.ofInt (IntKind.bits IntKind.i64) x).toNat=x.toNat:=by
 show(BitVec.ofInt 64 x).toNat=x.toNat
 rw[BitVec.toNat_ofInt]
 congr 1
 omega
def b2i (b:Bool):Int:=if b then 1 else 0
theorem dr {z:Int}(h:0<=z):∃n:Nat,z=n:=⟨z.toNat,by omega⟩
theorem appL {α:Type}{b:Nat}{xs ys:List α}(h:xs.length+ys.length<=100000000000) (hb:Nat.ble b 1024=true):appS b xs ys=some (xs++ys):=by
 have hb:=Nat.ble_eq.mp hb
 have:(xs.length+ys.length) * b<=100000000000 * 1024:=Nat.mul_le_mul h hb
 unfold appS
 rw[if_pos (by omega)]
theorem app1 {α:Type}{b:Nat}{xs:List α}{x:α}(h:xs.length<=10000000000) (hb:Nat.ble b 1024=true):appS b xs [x]=some (xs++[x]):=appL (by simp only[vA,vC];omega) hb
theorem dF {α:Type}{xs:List α}{z:Int}(h0:0<=z) (h1:z<xs.length):∃x,idx xs z=some x/\x∈xs:=by
 have hz:z.toNat<xs.length:=by omega
 exact⟨xs[z.toNat],by rw[cD h0];simp[hz],by simp⟩
def RowIn (n:Int) (l:Int) (row:List Int):Prop:=(row.length:Int)=l/\∀x∈row,0<=x/\x<n
def tab (t:List (List Int)) (q i:Int):Int:=(t.getD q.toNat []).getD i.toNat 0
theorem oY {t:List (List Int)}{n l:Int}(h:∀row∈t,RowIn n l row){q i:Int}(q0:0<=q) (q1:q<t.length) (i0:0<=i) (i1:i<l):
 ∃row,idx t q=some row/\idx row i=some (tab t q i)/\0<=tab t q i/\tab t q i<n:=by
 obtain⟨row,h1,h2⟩:=dF (xs:=t) q0 q1
 obtain⟨h3,h4⟩:=h row h2
 obtain⟨x,h5,h6⟩:=dF (xs:=row) i0 (by omega)
 have e:tab t q i=x:=by
  unfold tab
  rw[cD q0]at h1
  rw[cD i0]at h5
  rw[List.getD_eq_getElem?_getD,List.getD_eq_getElem?_getD,h1,Option.getD_some,h5,Option.getD_some]
 rw[e]
 exact⟨row,h1,h5,h4 x h6⟩
end Go.Proofs.Ytpcjbkgbnoocaaa
set_option linter.unusedVariables false
set_option linter.unusedSimpArgs false
namespace Go.Proofs.Ytpcjbkgbnoocaaa
open Go Go.Wk Go.Proofs
def inR (n x:Int):Bool:=decide (0<=x)&&decide (x<n)
theorem ej {n x:Int}:inR n x=true↔0<=x/\x<n:=by unfold inR;simp
theorem rD (n x:Int):(decide (0<=x)&&decide (x<=n-1))=inR n x:=by
 unfold inR
 congr 1
 exact decide_eq_decide.2 (by omega)
theorem pv (n x:Int):(decide (x<0)||decide (n<=x))= !(inR n x):=by
 unfold inR
 by_cases h1:x<0 <;> by_cases h2:n<=x <;> simp[h1,h2] <;> omega
theorem in2 (o:Int):(decide (0<=o)&&decide (o<=1))=inR 2 o:=by
 unfold inR;congr 1;exact decide_eq_decide.2 (by omega)
theorem in41 (o:Int):(decide (0<=o)&&decide (o<=40))=inR 41 o:=by
 unfold inR;congr 1;exact decide_eq_decide.2 (by omega)
theorem pK (a b:Int):decide (a<b)= !decide (b<=a):=by rw[← decide_not];exact decide_eq_decide.2 (by omega)
theorem cT (a b c:Int):dT a b c=some (decide (b<=a)&&decide (a<=c)):=by
 unfold dT
 by_cases h:b<=a <;> simp[h]
theorem eD:∀(n:Nat) (xs:List Int),xs.Nodup->(∀x∈xs,0<=x/\x<n)->xs.length<=n
 | 0,[],_,_=>by simp
 | 0,x::xs,_,h=>by have:=h x (List.mem_cons_self ..);omega
 | n+1,xs,hn,h=>by
  by_cases hm:(n:Int)∈xs
  · have h1:=List.length_erase_of_mem hm
    have h2:=eD n (xs.erase (n:Int)) (hn.erase _) (λx hx=>by
     rw[hn.mem_erase_iff]at hx
     have:=h x hx.2
     have:=hx.1
     omega)
    omega
  · have:=eD n xs hn (λx hx=>by
     have h3:=h x hx
     have:x≠n:=λe=>hm (e ▸ hx)
     omega)
    omega
end Go.Proofs.Ytpcjbkgbnoocaaa
set_option linter.unusedVariables false
set_option linter.unusedSimpArgs false
namespace Go.Proofs.Ytpcjbkgbnoocaaa
open Go Go.Wk Go.Proofs
def stepUp (n:Int) (xs:List Int) (i:Nat) (x:Int):Bool:=inR n x&&(!decide (0<i)||(match xs[i-1]? with | some y=>decide (y<x) | none=>false))
def cw (n:Int) (xs:List Int):Bool:=xs.zipIdx.all (λp=>stepUp n xs p.2 p.1)
theorem km {n:Int}{xs:List Int}(h:cw n xs=true):(∀(i:Nat) x,xs[i]? =some x->0<=x/\x<n)/\∀(i:Nat) x y,xs[i]? =some x->xs[i+1]? =some y->x<y:=by
 unfold cw at h
 rw[List.all_eq_true]at h
 refine⟨λi x hx=>?_,λi x y hx hy=>?_⟩
 · have:=h (x,i) (List.mem_zipIdx_iff_getElem?.2 hx)
   unfold stepUp at this
   rw[vv]at this
   exact ej.1 this.1
 · have:=h (y,i+1) (List.mem_zipIdx_iff_getElem?.2 hy)
   unfold stepUp at this
   simp only[Nat.add_sub_cancel,hx]at this
   have h2:=((vv _ _).mp this).2
   simp at h2
   exact h2
theorem qF {n:Int}{xs:List Int}(h:cw n xs=true):∀(i:Nat) x,xs[i]? =some x->(i:Int)<=x
 | 0,x,hx=>by have:=((km h).1 0 x hx).1;omega
 | i+1,x,hx=>by
  have hi:i<xs.length:=by have:=(gs.1 hx).1;omega
  have hy:xs[i]? =some xs[i]:=by simp[hi]
  have:=qF h i _ hy
  have:=(km h).2 i _ _ hy hx
  omega
theorem sa {n:Int}{xs:List Int}(h:cw n xs=true) (h0:0<=n):(xs.length:Int)<=n:=by
 by_cases he:xs.length=0
 · omega
 · have hx:xs[xs.length-1]? =some (xs[xs.length-1]'(by omega)):=bB (by omega)
   have:=qF h _ _ hx
   have:=((km h).1 _ _ hx).2
   omega
theorem qw {xs:List Int}{i:Nat}(hi:i<xs.length) (h:0<i):∃y,idx xs (IntKind.i64.wrap ((i:Int)-1))=some y/\xs[i-1]? =some y\/1000000000<=i:=by
 by_cases hb:1000000000<=i
 · exact⟨0,.inr hb⟩
 · refine⟨xs[i-1]'(by omega),.inl ⟨?_,bB (by omega)⟩⟩
   rw[wr' (by omega) (by omega),show((i:Int)-1)=((i-1:Nat):Int) from by omega,bC]
   exact bB (by omega)
theorem pT {xs:List Int}{n:Int}(h0:0<=n) (h1:n<=1000000000) (hl:xs.length<=1000000000):jK xs n=some (cw n xs):=by
 unfold jK
 rw[kO (f:=fQ xs n) (r:=false) (stepUp n xs) (xs:=xs) rfl (λi x hx=>by
  have hi:=(gs.1 hx).1
  unfold fQ stepUp
  rw[bC,hx]
  simp only[bt,wr' (z:=n-1) (by omega) (by omega),cT,rD]
  cases inR n x with
  | false=>rfl
  | true=>
   by_cases hi0:0<i
   · obtain⟨y,⟨e1,e2⟩ | e⟩:=qw hi hi0
     · have e3:decide (x<=y)= !decide (y<x):=by rw[← decide_not];exact decide_eq_decide.2 (by omega)
       simp only[e1,e2,show(0:Int)<(i:Int) from by omega,hi0,decide_true,vw,cond_false,cond_true,bt,e3,Bool.true_and,Bool.false_or]
       cases decide (y<x) <;> rfl
     · omega
   · have:¬(0:Int)<(i:Int):=by omega
     simp[hi0,this])]
 unfold cw
 cases List.all xs.zipIdx (λp=>stepUp n xs p.2 p.1) <;> rfl
theorem j5 {xs:List Int}{n:Int}(h0:0<=n) (h1:n<=1000000000) (hl:xs.length<=1000000000):jh xs n=some (cw n xs):=by
 unfold jh
 rw[pT h0 h1 hl]
 by_cases h:(xs.length:Int)<=n
 · simp[h]
 · have:cw n xs=false:=by
    cases hs:cw n xs with
    | false=>rfl
    | true=>exact absurd (sa hs h0) h
   simp[h,this]
theorem l9 {xs:List Int}{n:Int}(hl:xs.length<=1000000000):mJ xs n=some (cw n xs):=by
 unfold mJ
 rw[kO (f:=mc xs n) (r:=false) (stepUp n xs) (xs:=xs) rfl (λi x hx=>by
  have hi:=(gs.1 hx).1
  unfold mc stepUp
  rw[bC,hx]
  simp only[bt,orE,pv]
  cases inR n x with
  | false=>rfl
  | true=>
   by_cases hi0:0<i
   · obtain⟨y,⟨e1,e2⟩ | e⟩:=qw hi hi0
     · have e3:decide (x<=y)= !decide (y<x):=by rw[← decide_not];exact decide_eq_decide.2 (by omega)
       simp only[e1,e2,show(0:Int)<(i:Int) from by omega,hi0,decide_true,vw,cond_false,cond_true,bt,e3,Bool.true_and,Bool.false_or]
       cases decide (y<x) <;> rfl
     · omega
   · have:¬(0:Int)<(i:Int):=by omega
     simp[hi0,this])]
 unfold cw
 cases List.all xs.zipIdx (λp=>stepUp n xs p.2 p.1) <;> rfl
end Go.Proofs.Ytpcjbkgbnoocaaa
set_option linter.unusedVariables false
set_option linter.unusedSimpArgs false
namespace Go.Proofs.Ytpcjbkgbnoocaaa
open Go Go.Wk Go.Proofs
abbrev Asc (xs:List Int):Prop:=xs.Pairwise (· < ·)
theorem pC:∀{xs ys:List Int},Asc xs->Asc ys->(∀z,z∈xs↔z∈ys)->xs=ys
 | [],[],_,_,_=>rfl
 | [],y::ys,_,_,h=>by have:=(h y).2 (List.mem_cons_self ..);cases this
 | x::xs,[],_,_,h=>by have:=(h x).1 (List.mem_cons_self ..);cases this
 | x::xs,y::ys,hx,hy,h=>by
  have hx':=List.pairwise_cons.1 hx
  have hy':=List.pairwise_cons.1 hy
  have e:x=y:=by
   have h1:=(h x).1 (List.mem_cons_self ..)
   have h2:=(h y).2 (List.mem_cons_self ..)
   rcases List.mem_cons.1 h1 with h1 | h1
   · exact h1
   · rcases List.mem_cons.1 h2 with h2 | h2
     · exact h2.symm
     · have:=hx'.1 y h2
       have:=hy'.1 x h1
       omega
  subst e
  congr 1
  refine pC hx'.2 hy'.2 λz=>?_
  have hz:=h z
  rw[List.mem_cons,List.mem_cons]at hz
  constructor
  · intro hm
    have:=hx'.1 z hm
    rcases hz.1 (.inr hm) with e | hm'
    · omega
    · exact hm'
  · intro hm
    have:=hy'.1 z hm
    rcases hz.2 (.inr hm) with e | hm'
    · omega
    · exact hm'
theorem tb:∀{xs:List Int},(∀(i:Nat) x y,xs[i]? =some x->xs[i+1]? =some y->x<y)->Asc xs
 | [],_=>List.Pairwise.nil
 | [x],_=>by simp
 | x::y::r,h=>by
  have ih:=tb (xs:=y::r) (λi a b ha hb=>h (i+1) a b ha hb)
  have hxy:=h 0 x y rfl rfl
  refine List.pairwise_cons.2 ⟨λz hz=>?_,ih⟩
  rcases List.mem_cons.1 hz with rfl | hz
  · exact hxy
  · have:=(List.pairwise_cons.1 ih).1 z hz
    omega
theorem fl {n:Int}{xs:List Int}:cw n xs=true↔(∀x∈xs,0<=x/\x<n)/\Asc xs:=by
 constructor
 · intro h
   obtain⟨h1,h2⟩:=km h
   refine⟨λx hx=>?_,tb h2⟩
   obtain⟨i,hi⟩:=List.mem_iff_getElem?.1 hx
   exact h1 i x hi
 · rintro⟨h1,h2⟩
   unfold cw
   rw[List.all_eq_true]
   rintro⟨x,i⟩ hx
   have hx:=List.mem_zipIdx_iff_getElem?.1 hx
   dsimp only at hx ⊢
   unfold stepUp
   rw[vv]
   refine⟨ej.2 (h1 x (it hx)),?_⟩
   by_cases hi:0<i
   · have hlt:=(gs.1 hx).1
     have hy:xs[i-1]? =some (xs[i-1]'(by omega)):=bB (by omega)
     have:=List.pairwise_iff_getElem.1 h2 (i-1) i (by omega) hlt (by omega)
     rw[(gs.1 hx).2]at this
     rw[hy]
     simp[this]
   · simp[hi]
theorem pA {xs:List Int}(h:Asc xs){i j:Nat}{x y:Int}(hi:xs[i]? =some x) (hj:xs[j]? =some y) (hij:i<j):x<y:=by
 obtain⟨h1,e1⟩:=gs.1 hi
 obtain⟨h2,e2⟩:=gs.1 hj
 rw[← e1,← e2]
 exact List.pairwise_iff_getElem.1 h i j h1 h2 hij
theorem gw {xs:List Int}(h:Asc xs):xs.Nodup:=List.Pairwise.imp (λh e=>by omega) h
theorem tq {xs:List Int}(h:xs.Nodup):Asc (xs.mergeSort λx y=>decide (x<=y)):=by
 have h1:(xs.mergeSort λx y=>decide (x<=y)).Pairwise (λa b=>decide (a<=b)=true):=List.pairwise_mergeSort (λa b c h1 h2=>by simp only[decide_eq_true_eq]at *;omega) (λa b=>by simp only[Bool.or_eq_true,decide_eq_true_eq];omega) xs
 have h2:(xs.mergeSort λx y=>decide (x<=y)).Nodup:=(List.mergeSort_perm xs _).nodup_iff.2 h
 have h3:=List.Pairwise.and h1 h2
 exact h3.imp λ⟨ha,hb⟩=>by
  simp only[decide_eq_true_eq]at ha
  have:∀{a b:Int},a<=b->a≠b->a<b:=λh1 h2=>by omega
  exact this ha hb
def ins (n:Int) (xs:List Int):List Int:=xs.filter (λx=>decide (x<n))++n::xs.filter (λx=>decide (n<x))
theorem nA {n:Int}{xs:List Int}(hn:n∉xs) (z:Int):z∈ins n xs↔z=n\/z∈xs:=by
 unfold ins
 simp only[vF,List.mem_cons,List.mem_filter,decide_eq_true_eq]
 constructor
 · rintro(⟨h,_⟩ | rfl | ⟨h,_⟩)
   · exact .inr h
   · exact .inl rfl
   · exact .inr h
 · rintro(rfl | h)
   · exact .inr (.inl rfl)
   · rcases Int.lt_trichotomy z n with hlt | heq | hgt
     · exact .inl ⟨h,hlt⟩
     · exact absurd (heq ▸ h) hn
     · exact .inr (.inr ⟨h,hgt⟩)
theorem nt {n:Int}{xs:List Int}(h:Asc xs):Asc (ins n xs):=by
 unfold ins
 refine List.pairwise_append.2 ⟨h.filter _,List.pairwise_cons.2 ⟨λz hz=>?_,h.filter _⟩,λa ha b hb=>?_⟩
 · simp only[List.mem_filter,decide_eq_true_eq]at hz;exact hz.2
 · simp only[List.mem_filter,decide_eq_true_eq]at ha
   rcases List.mem_cons.1 hb with rfl | hb
   · exact ha.2
   · simp only[List.mem_filter,decide_eq_true_eq]at hb;omega
theorem qS {n:Int}{xs:List Int}(hn:n∉xs) (h:Asc xs):(ins n xs).length=xs.length+1:=by
 have h1:(n::xs).Nodup:=List.nodup_cons.2 ⟨hn,gw h⟩
 have h2:(ins n xs).Perm (n::xs):=(List.perm_ext_iff_of_nodup (gw (nt h)) h1).2 λz=>by rw[nA hn,List.mem_cons]
 rw[h2.length_eq,vA]
theorem rZ {n:Int}{xs:List Int}(h:Asc xs) (hn:n∉xs){k:Nat}(hk:k<=xs.length) (h1:∀(i:Nat) x,i<k->xs[i]? =some x->x<n) (h2:∀x,xs[k]? =some x->n<x):xs.take k++n::xs.drop k=ins n xs:=by
 refine pC ?_ (nt h) λz=>?_
 · have hT:∀z∈xs.take k,z<n:=λz hz=>by
    obtain⟨i,hi⟩:=List.mem_iff_getElem?.1 hz
    rw[List.getElem?_take]at hi
    split at hi
    · rename_i hik;exact h1 i z hik hi
    · cases hi
   have hD:∀z∈xs.drop k,n<z:=λz hz=>by
    obtain⟨i,hi⟩:=List.mem_iff_getElem?.1 hz
    rw[List.getElem?_drop]at hi
    have hlt:=(gs.1 hi).1
    have hx:xs[k]? =some (xs[k]'(by omega)):=bB (by omega)
    have:=h2 _ hx
    rcases Nat.eq_zero_or_pos i with e | e
    · subst e
      rw[Nat.add_zero,hx]at hi
      cases hi;exact this
    · have:=pA h hx hi (by omega)
      omega
   refine List.pairwise_append.2 ⟨h.sublist (List.take_sublist ..),List.pairwise_cons.2 ⟨hD,h.sublist (List.drop_sublist ..)⟩,λa ha b hb=>?_⟩
   have:=hT a ha
   rcases List.mem_cons.1 hb with rfl | hb
   · exact this
   · have:=hD b hb;omega
 · rw[nA hn,vF,List.mem_cons]
   have:z∈xs↔z∈xs.take k\/z∈xs.drop k:=by rw[← vF,List.take_append_drop]
   rw[this]
   constructor
   · rintro(h | h | h)
     · exact .inr (.inl h)
     · exact .inl h
     · exact .inr (.inr h)
   · rintro(h | h | h)
     · exact .inr (.inl h)
     · exact .inl h
     · exact .inr (.inr h)
end Go.Proofs.Ytpcjbkgbnoocaaa
set_option linter.unusedVariables false
set_option linter.unusedSimpArgs false
namespace Go.Proofs.Ytpcjbkgbnoocaaa
open Go Go.Wk Go.Proofs
def vertOk (a:Arena) (i:Nat) (row:List Int):Bool:=(match a.Owner[i]? with | some o=>inR 2 o | none=>false)&&decide ((1:Int)<=row.length)&&decide ((row.length:Int)<=16)&&cw (a.Owner.length:Int) row
def cZ (a:Arena):Bool:=decide (1<=(a.Owner.length:Int))&&decide ((a.Owner.length:Int)<=256)&&((a.Next.length:Int)==(a.Owner.length:Int))&&a.Next.zipIdx.all (λp=>vertOk a p.2 p.1)
def cn (g:Parity):Bool:=cZ g.Arena&&((g.Prio.length:Int)==(g.Arena.Owner.length:Int))&&g.Prio.all (inR 41)
theorem ke (a:Arena):iz a=some (cZ a):=by
 unfold iz cZ
 rw[cT,bt]
 cases h1:(decide (1<=(a.Owner.length:Int))&&decide ((a.Owner.length:Int)<=256)) with
 | false=>rfl
 | true=>
  simp only[vv,decide_eq_true_eq]at h1
  simp only[vw,cond_false,bt,Bool.true_and,bne]
  cases h2:((a.Next.length:Int)==(a.Owner.length:Int)) with
  | false=>rfl
  | true=>
   have hl:a.Owner.length=a.Next.length:=by have:=beq_iff_eq.1 h2;omega
   rw[kO (f:=gl a) (r:=false) (vertOk a) (xs:=a.Next) hl (λi row hx=>by
    have hi:=(gs.1 hx).1
    obtain⟨o,ho⟩:∃o,a.Owner[i]? =some o:=⟨_,bB (by omega)⟩
    have hv:vertOk a i row=(inR 2 o&&decide ((1:Int)<=row.length)&&decide ((row.length:Int)<=16)&&cw (a.Owner.length:Int) row):=by unfold vertOk;rw[ho]
    rw[hv]
    unfold gl
    rw[bC,bC,ho,hx]
    simp only[bt,cT,in2]
    cases inR 2 o with
    | false=>rfl
    | true=>
     simp only[vw,cond_false,bt,pK,Bool.true_and]
     cases h3:decide ((1:Int)<=row.length) with
     | false=>rfl
     | true=>
      simp only[vw,cond_false,bt,Bool.true_and]
      cases h4:decide ((row.length:Int)<=16) with
      | false=>rfl
      | true=>
       have h4:=of_decide_eq_true h4
       rw[j5 (by omega) (by omega) (by omega)]
       simp only[vw,cond_false,bt,Bool.true_and]
       cases cw (a.Owner.length:Int) row <;> rfl)]
   simp only[vw,cond_false,bt,Bool.true_and]
   cases List.all a.Next.zipIdx (λp=>vertOk a p.2 p.1) <;> rfl
theorem pL (a:Arena):mS a=some (cZ a):=by
 unfold mS cZ
 simp only[orE,bt,pK,bne]
 rw[show(!decide (1<=(a.Owner.length:Int)) || !decide ((a.Owner.length:Int)<=256) || !((a.Next.length:Int)==(a.Owner.length:Int)))= !(decide (1<=(a.Owner.length:Int))&&decide ((a.Owner.length:Int)<=256)&&((a.Next.length:Int)==(a.Owner.length:Int))) from by simp only[Bool.not_and]]
 cases h1:(decide (1<=(a.Owner.length:Int))&&decide ((a.Owner.length:Int)<=256)&&((a.Next.length:Int)==(a.Owner.length:Int))) with
 | false=>rfl
 | true=>
  simp only[vv,decide_eq_true_eq,beq_iff_eq]at h1
  simp only[vw,cond_false,bt,Bool.true_and]
  rw[kO (f:=j8 a) (r:=false) (vertOk a) (xs:=a.Next) rfl (λi row hx=>by
   have hi:=(gs.1 hx).1
   obtain⟨o,ho⟩:∃o,a.Owner[i]? =some o:=⟨_,bB (by omega)⟩
   have hv:vertOk a i row=(inR 2 o&&decide ((1:Int)<=row.length)&&decide ((row.length:Int)<=16)&&cw (a.Owner.length:Int) row):=by unfold vertOk;rw[ho]
   rw[hv]
   unfold j8
   rw[bC,bC,ho,hx]
   simp only[bt]
   have hx2:(decide (o<0)||decide (1<o))= !(inR 2 o):=by
    rw[← pv];congr 1
   rw[orE,bt,hx2]
   cases inR 2 o with
   | false=>rfl
   | true=>
    simp only[vw,cond_false,bt,pK,Bool.true_and]
    cases h3:decide ((1:Int)<=row.length) with
    | false=>rfl
    | true=>
     simp only[vw,cond_false,bt,Bool.true_and]
     cases h4:decide ((row.length:Int)<=16) with
     | false=>rfl
     | true=>
      have h4:=of_decide_eq_true h4
      rw[l9 (by omega)]
      simp only[vw,cond_false,bt,Bool.true_and]
      cases cw (a.Owner.length:Int) row <;> rfl)]
  simp only[vw,cond_false,bt,Bool.true_and]
  cases List.all a.Next.zipIdx (λp=>vertOk a p.2 p.1) <;> rfl
theorem lJ (g:Parity):gz g=some (cn g):=by
 unfold gz cn
 rw[ke,bt,orE,bt,bne,← Bool.not_and]
 cases h1:(cZ g.Arena&&((g.Prio.length:Int)==(g.Arena.Owner.length:Int))) with
 | false=>rfl
 | true=>
  simp only[vw,cond_false]
  rw[cU (f:=fg g) (r:=false) (inR 41) (xs:=g.Prio) rfl (λi y hy=>by
   unfold fg
   rw[bC,hy,bt,cT,bt,in41]
   cases inR 41 y <;> rfl)]
  cases g.Prio.all (inR 41) <;> rfl
theorem oq (g:Parity):me g=some (cn g):=by
 unfold me cn
 rw[pL,bt,orE,bt,bne,← Bool.not_and]
 cases h1:(cZ g.Arena&&((g.Prio.length:Int)==(g.Arena.Owner.length:Int))) with
 | false=>rfl
 | true=>
  simp only[vw,cond_false]
  rw[cU (f:=jt g) (r:=false) (inR 41) (xs:=g.Prio) rfl (λi y hy=>by
   unfold jt
   rw[bC,hy,bt,orE,bt]
   have hx2:(decide (y<0)||decide (40<y))= !(inR 41 y):=by
    rw[← pv];congr 1
   rw[hx2]
   cases inR 41 y <;> rfl)]
  cases g.Prio.all (inR 41) <;> rfl
theorem dq {g:Parity}(h:cn g=true):1<=g.Arena.Owner.length/\g.Arena.Owner.length<=256/\g.Arena.Next.length=g.Arena.Owner.length/\g.Prio.length=g.Arena.Owner.length /\
 (∀(i:Nat) row,g.Arena.Next[i]? =some row->1<=row.length/\row.length<=16/\cw (g.Arena.Owner.length:Int) row=true):=by
 simp only[cn,cZ,vv,decide_eq_true_eq,beq_iff_eq]at h
 obtain⟨⟨⟨⟨⟨h1,h2⟩,h3⟩,h4⟩,h5⟩,h6⟩:=h
 refine⟨by omega,by omega,by omega,by omega,λi row hr=>?_⟩
 rw[List.all_eq_true]at h4
 have:=h4 (row,i) (List.mem_zipIdx_iff_getElem?.2 hr)
 simp only[vertOk,vv,decide_eq_true_eq]at this
 exact⟨by omega,by omega,this.2⟩
end Go.Proofs.Ytpcjbkgbnoocaaa
set_option linter.unusedVariables false
set_option linter.unusedSimpArgs false
namespace Go.Proofs.Ytpcjbkgbnoocaaa
open Go Go.Wk Go.Proofs
theorem nZ {g:Parity}(h:cn g=true):(∀o∈g.Arena.Owner,inR 2 o=true)/\(∀x∈g.Prio,inR 41 x=true):=by
 have h':=dq h
 simp only[cn,cZ,vv,decide_eq_true_eq,beq_iff_eq]at h
 obtain⟨⟨⟨⟨⟨h1,h2⟩,h3⟩,h4⟩,h5⟩,h6⟩:=h
 rw[List.all_eq_true]at h4 h6
 refine⟨λo ho=>?_,h6⟩
 obtain⟨i,hi⟩:=List.mem_iff_getElem?.1 ho
 have hlt:=(gs.1 hi).1
 have hr:g.Arena.Next[i]? =some (g.Arena.Next[i]'(by omega)):=bB (by omega)
 have:=h4 (_,i) (List.mem_zipIdx_iff_getElem?.2 hr)
 simp only[vertOk,hi,vv]at this
 exact this.1.1.1
theorem sm {g:Parity}(h1:1<=g.Arena.Owner.length) (h2:g.Arena.Owner.length<=256) (h3:g.Arena.Next.length=g.Arena.Owner.length) (h4:g.Prio.length=g.Arena.Owner.length) (h5:∀row∈g.Arena.Next,1<=row.length/\row.length<=16/\cw (g.Arena.Owner.length:Int) row=true) (h6:∀o∈g.Arena.Owner,inR 2 o=true) (h7:∀x∈g.Prio,inR 41 x=true):cn g=true:=by
 simp only[cn,cZ,vv,decide_eq_true_eq,beq_iff_eq]
 refine⟨⟨⟨⟨⟨by omega,by omega⟩,by omega⟩,?_⟩,by omega⟩,by rw[List.all_eq_true];exact h7⟩
 rw[List.all_eq_true]
 rintro⟨row,i⟩ hx
 have hx:=List.mem_zipIdx_iff_getElem?.1 hx
 dsimp only at hx ⊢
 have hlt:=(gs.1 hx).1
 obtain⟨k1,k2,k3⟩:=h5 row (it hx)
 have ho:g.Arena.Owner[i]? =some (g.Arena.Owner[i]'(by omega)):=bB (by omega)
 have:=h6 _ (List.getElem_mem (show i<g.Arena.Owner.length by omega))
 unfold vertOk
 simp only[ho,this,k3,Bool.and_true,Bool.true_and,vv,decide_eq_true_eq]
 exact⟨by omega,by omega⟩
end Go.Proofs.Ytpcjbkgbnoocaaa
set_option linter.unusedVariables false
set_option linter.unusedSimpArgs false
namespace Go.Proofs.Ytpcjbkgbnoocaaa
open Go Go.Wk Go.Proofs
def sigOk (p:Sig):Bool:=(decide (1<=p.In)&&decide (p.In<=2))&&(decide (1<=p.Out)&&decide (p.Out<=2))
theorem dj (p:Sig):gQ p=some (sigOk p):=by
 unfold gQ sigOk
 simp only[cT,bt]
 cases(decide (1<=p.In)&&decide (p.In<=2)) <;> simp
theorem iU (p:Sig):jn p=some (sigOk p):=by
 unfold jn sigOk
 by_cases h1:1<=p.In <;> by_cases h2:p.In<=2 <;> by_cases h3:1<=p.Out <;> by_cases h4:p.Out<=2 <;> simp[h1,h2,h3,h4]
theorem eV (xs:List Int){n:Int}(h0: -1000000000000000000<=n) (h1:n<=1000000000000000000):em xs n=some (xs.all (inR n)):=by
 unfold em
 have hm:=cU (f:=e6 xs n) (r:=false) (inR n) (xs:=xs) rfl (λi y hy=>by
  unfold e6
  rw[wr' (by omega) (by omega),bC,hy,bt,cT,bt]
  have:(decide (0<=y)&&decide (y<=n-1))=inR n y:=by
   unfold inR
   congr 1
   exact decide_eq_decide.2 (by omega)
  rw[this]
  cases inR n y <;> rfl)
 rw[hm,bt]
 cases xs.all (inR n) <;> rfl
theorem fj (xs:List Int) (n:Int):dX xs n=some (xs.all (inR n)):=by
 unfold dX
 rw[dk (λx=>decide (x<0)||decide (n<=x)) (λx _=>by
  unfold dA
  by_cases h:x<0 <;> simp[h]),bt]
 congr 1
 rw[List.all_eq_not_any_not]
 congr 2
 funext x
 unfold inR
 by_cases h:x<0 <;> by_cases h':n<=x <;> simp[h,h'] <;> omega
def pw (n:Int):Int:=if n=1 then 2 else 4
theorem ck {n:Int}(h:n=1\/n=2):cG n=some (pw n):=by
 unfold cG
 rcases h with rfl | rfl
 · rw[iX (by omega)]
   have:ed (1,1)=some (.inr (.inr (0,2))):=by decide
   rw[this,bt,mf,iX (by omega)]
   rfl
 · rw[iX (by omega)]
   have:ed (2,1)=some (.inr (.inr (1,2))):=by decide
   rw[this,bt,mf,iX (by omega)]
   have:ed (1,2)=some (.inr (.inr (0,4))):=by decide
   rw[this,bt,mf,iX (by omega)]
   rfl
theorem fi {n:Int}(h:n=1\/n=2):nn n=some ()/\IntKind.i64.wrap (1 * 2 ^ (min (vu n) (IntKind.bits IntKind.i64)))=pw n:=by
 rcases h with rfl | rfl <;> decide
theorem cM {p:Sig}(h:sigOk p=true):(p.In=1\/p.In=2)/\(p.Out=1\/p.Out=2):=by
 simp only[sigOk,vv,decide_eq_true_eq]at h
 omega
theorem jp (n:Int):2<=pw n/\pw n<=4:=by unfold pw;split <;> omega
end Go.Proofs.Ytpcjbkgbnoocaaa
set_option linter.unusedVariables false
set_option linter.unusedSimpArgs false
namespace Go.Proofs.Ytpcjbkgbnoocaaa
open Go Go.Wk Go.Proofs
theorem tN {xs:List Int}(h:Asc xs){n:Int}(hn:n∉xs) (hl:xs.length<=100000):gU xs n=some (ins n xs):=by
 obtain⟨o,w1,w2⟩:=cm (f:=eo xs n) (λj (s:Int)=>s=(j:Int)/\j<=xs.length/\∀(i:Nat) x,i<j->xs[i]? =some x->x<n) (λ_=>False) (λs=>∃k:Nat,s=(k:Int)/\k<=xs.length/\(∀(i:Nat) x,i<k->xs[i]? =some x->x<n)/\∀x,xs[k]? =some x->n<x) xs.length (λj s ⟨e,hj,hall⟩=>by
  subst e
  unfold eo
  by_cases hlt:(j:Int)<(xs.length:Int)
  · have hxj:xs[j]? =some (xs[j]'(by omega)):=bB (by omega)
    have hm:=List.getElem_mem (show j<xs.length by omega)
    generalize xs[j]'(by omega)=x at hxj hm
    simp only[hlt,decide_true,cond_true,bC,hxj,bt]
    by_cases hxn:x<n
    · simp only[hxn,decide_true,cond_true]
      refine⟨_,rfl,by omega,by rw[wr' (by omega) (by omega)];omega,by omega,λi y hi hy=>?_⟩
      by_cases hij:i=j
      · subst hij;rw[hxj]at hy;cases hy;exact hxn
      · exact hall i y (by omega) hy
    · simp only[hxn,decide_false,cond_false]
      refine⟨_,rfl,j,rfl,hj,hall,λy hy=>?_⟩
      rw[hxj]at hy
      cases hy
      have:x≠n:=λe=>hn (e ▸ hm)
      omega
  · simp only[hlt,decide_false,cond_false,bt]
    exact⟨_,rfl,j,rfl,hj,hall,λy hy=>by have:=(gs.1 hy).1;omega⟩)
  (2 ^ 64) 0 0 (by omega) ⟨rfl,by omega,λi x hi=>by omega⟩ (by omega)
 match o,w2 with
 | .inr s,⟨k,e,hk,h1,h2⟩=>
  subst e
  unfold gU
  rw[w1,bt,bD]
  have hc:(br (bif decide ((k:Int)<(xs.length:Int)) then br (idx xs (k:Int)) λx28=>some (x28==n) else some false) λp32=>bif p32 then some xs else
   br (subS xs 0 (k:Int)) λx36=>br (de x36) λx37=>br (appS 8 x37 [n]) λx40=>br (subS xs (k:Int) (xs.length:Int)) λx44=>br (appS 8 x40 x44) λx45=>some x45)=some (xs.take k++[n]++xs.drop k):=by
   have hp:(bif decide ((k:Int)<(xs.length:Int)) then br (idx xs (k:Int)) λx28=>some (x28==n) else some false)=some false:=by
    by_cases hlt:(k:Int)<(xs.length:Int)
    · have hxk:xs[k]? =some (xs[k]'(by omega)):=bB (by omega)
      have:=h2 _ hxk
      have hne:(xs[k]'(by omega)==n)=false:=by
       rw[beq_eq_false_iff_ne];omega
      simp only[hlt,decide_true,cond_true,bC,hxk,bt,hne]
    · simp only[hlt,decide_false,cond_false]
   have hs1:subS xs 0 (k:Int)=some (xs.take k):=by
    unfold subS
    rw[if_pos (by omega),vz];rfl
   have hs2:subS xs (k:Int) (xs.length:Int)=some (xs.drop k):=by
    unfold subS
    rw[if_pos (by omega),vz,vz,List.take_length]
   have ht:(xs.take k).length<=100000:=by rw[List.length_take];omega
   rw[hp,bt]
   simp only[cond_false]
   rw[hs1,bt]
   unfold de
   rw[appL (by rw[vC];omega) rfl,bt,bt,List.nil_append,app1 (by omega) rfl,bt,hs2,bt,appL (by rw[vx,List.length_drop,List.length_singleton];omega) rfl]
   rfl
  rw[hc,List.append_assoc,List.singleton_append,rZ h hn hk h1 h2]
theorem qO {xs:List Int}(hl:xs.length<=10000000):de xs=some xs:=by
 unfold de
 rw[appL (by rw[vC];omega) rfl];rfl
end Go.Proofs.Ytpcjbkgbnoocaaa
set_option linter.unusedVariables false
set_option linter.unusedSimpArgs false
namespace Go.Proofs.Ytpcjbkgbnoocaaa
open Go Go.Wk Go.Proofs
def pairOk (n:Int) (x:Pair):Bool:=cw n x.Ask&&cw n x.Give
def pairsOk (xs:List Pair) (n:Int):Bool:=decide ((xs.length:Int)<=4)&&xs.all (pairOk n)
section
variable {xs:List Pair}{n:Int}(h0:0<=n) (h1:n<=256) (hb:∀x∈xs,x.Ask.length<=1000000000/\x.Give.length<=1000000000)
include h0 h1 hb
omit hb in
theorem nf {s:List Int}(hl:s.length<=1000000000):lA s n=some (cw n s):=by
 unfold lA
 rw[cT,j5 h0 (by omega) hl]
 simp[h0,h1]
theorem lE:iB xs n=some (pairsOk xs n):=by
 unfold iB pairsOk
 rw[cT]
 simp only[h0,h1,decide_true,Bool.and_self,bt,vw,cond_false,pK]
 cases decide ((xs.length:Int)<=4) with
 | false=>rfl
 | true=>
  rw[cU (f:=fO xs n) (r:=false) (pairOk n) (xs:=xs) rfl (λi x hx=>by
   obtain⟨b1,b2⟩:=hb x (it hx)
   unfold fO pairOk
   rw[bC,hx]
   simp only[bt,nf h0 h1 b1,nf h0 h1 b2]
   cases cw n x.Ask <;> cases cw n x.Give <;> rfl)]
  simp only[vw,cond_false,bt,Bool.true_and]
  cases xs.all (pairOk n) <;> rfl
end
end Go.Proofs.Ytpcjbkgbnoocaaa
set_option linter.unusedVariables false
set_option linter.unusedSimpArgs false
namespace Go.Proofs.Ytpcjbkgbnoocaaa
open Go Go.Wk Go.Proofs
theorem oP {row:List Int}{v:Int}:jq row v=some (decide (v∈row)):=by
 unfold jq
 rw[cU (f:=je row v) (r:=true) (xs:=row) (λx=> !(x==v)) rfl (λi x hx=>by
  unfold je
  rw[bC,hx,bt]
  cases x==v <;> rfl)]
 by_cases h:v∈row
 · have:(row.all λx=> !(x==v))=false:=by
    rw[List.all_eq_false]
    exact⟨v,h,by simp⟩
   rw[this,decide_eq_true h];rfl
 · have:(row.all λx=> !(x==v))=true:=by
    rw[List.all_eq_true]
    intro x hx
    have:x≠v:=λe=>h (e ▸ hx)
    simp[this]
   rw[this,decide_eq_false h];rfl
theorem t8 {xs:List Int}(h:Asc xs){n:Int}(hn:n∈xs) (hl:xs.length<=100000):gU xs n=some xs:=by
 obtain⟨k,hk⟩:=List.getElem?_of_mem hn
 have hkl:=(gs.1 hk).1
 obtain⟨o,w1,w2⟩:=cm (f:=eo xs n) (λj (s:Int)=>s=(j:Int)/\j<=k) (λ_=>False) (λs=>s=(k:Int)) xs.length (λj s ⟨e,hj⟩=>by
  subst e
  have hxj:xs[j]? =some (xs[j]'(by omega)):=bB (by omega)
  generalize xs[j]'(by omega)=x at hxj
  unfold eo
  rw[decide_eq_true (show(j:Int)<(xs.length:Int) by omega),cond_true,bC,hxj,bt,bt]
  by_cases e:j=k
  · subst e
    rw[hxj]at hk
    cases hk
    rw[decide_eq_false (Int.lt_irrefl _),cond_false]
    exact⟨_,rfl,rfl⟩
  · have:=pA h hxj hk (by omega)
    rw[decide_eq_true this,cond_true]
    exact⟨_,rfl,by omega,by rw[wr' (by omega) (by omega)];omega,by omega⟩)
  (2 ^ 64) 0 0 (by omega) ⟨rfl,Nat.zero_le _⟩ (by omega)
 match o,w2 with
 | .inr s,e=>
  have e:s=(k:Int):=e
  subst e
  unfold gU
  rw[w1,bt,bD,decide_eq_true (show(k:Int)<(xs.length:Int) by omega),cond_true,bC,hk,bt,bt]
  simp
theorem tn {xs:List Int}(h:Asc xs) (n:Int) (hl:xs.length<=100000):∃R,gU xs n=some R/\Asc R/\∀z,z∈R↔z=n\/z∈xs:=by
 by_cases hn:n∈xs
 · exact⟨xs,t8 h hn hl,h,λz=>⟨.inr,λk=>k.elim (λe=>e ▸ hn) id⟩⟩
 · exact⟨_,tN h hn hl,nt h,nA hn⟩
structure St (n:Nat) (xs:List Int):Prop where
 asc:Asc xs
 rng:∀x∈xs,0<=x/\x<n
theorem St.len {n:Nat}{xs:List Int}(h:St n xs):xs.length<=n:=eD n xs (gw h.asc) h.rng
theorem St.ok {n:Nat}{xs:List Int}(h:St n xs){m:Int}(hm:(n:Int)<=m):cw m xs=true:=fl.2 ⟨λx hx=>by have:=h.rng x hx;omega,h.asc⟩
theorem St.of {n:Nat}{xs:List Int}(h:cw (n:Int) xs=true):St n xs:=⟨(fl.1 h).2,(fl.1 h).1⟩
theorem St.filter {n:Nat}{xs:List Int}(h:St n xs) (p:Int->Bool):St n (xs.filter p):=⟨h.asc.filter _,λx hx=>h.rng x (List.mem_filter.1 hx).1⟩
end Go.Proofs.Ytpcjbkgbnoocaaa
set_option linter.unusedVariables false
set_option linter.unusedSimpArgs false
namespace Go.Proofs.Ytpcjbkgbnoocaaa
open Go Go.Wk Go.Proofs
def ltd (p:Sig):Int:=pw p.In * pw p.Out
theorem ni {p:Sig}(hs:sigOk p=true):cq p=some (ltd p):=by
 unfold cq
 rw[dj,hs]
 obtain⟨hi,ho⟩:=cM hs
 unfold ltd
 simp only[bt,vw,cond_false]
 rcases hi with h | h <;> rcases ho with k | k <;> rw[h,k] <;> decide
def detRow (p:Sig) (n:Int) (row:List Int):Bool:=((row.length:Int)==ltd p)&&row.all (inR n)
def detOk (p:Sig) (d:Det):Bool:=decide (1<=(d.Next.length:Int))&&decide ((d.Next.length:Int)<=48)&&pairsOk d.Pairs d.Next.length&&d.Next.all (detRow p d.Next.length)
section
variable {p:Sig}{d:Det}(hs:sigOk p=true) (hb:∀x∈d.Pairs,x.Ask.length<=1000000000/\x.Give.length<=1000000000)
include hs hb
theorem jk:ir p d=some (detOk p d):=by
 unfold ir detOk
 rw[dj,hs]
 simp only[bt,vw,cond_false,cT]
 cases h1:(decide (1<=(d.Next.length:Int))&&decide ((d.Next.length:Int)<=48)) with
 | false=>rfl
 | true=>
  simp only[vv,decide_eq_true_eq]at h1
  rw[cU (f:=jb p d) (r:=false) (detRow p d.Next.length) (xs:=d.Next) rfl (λi row hx=>by
   unfold jb detRow
   rw[bC,hx]
   simp only[bt,ni hs,eV row (n:=(d.Next.length:Int)) (by omega) (by omega),bne]
   cases((row.length:Int)==ltd p) <;> cases row.all (inR d.Next.length) <;> rfl),lE (by omega) (by omega) hb]
  simp only[vw,cond_false,bt,Bool.true_and]
  cases d.Next.all (detRow p d.Next.length) <;> cases pairsOk d.Pairs d.Next.length <;> rfl
omit hs hb in
theorem gL (h:detOk p d=true):1<=d.Next.length/\d.Next.length<=48/\d.Pairs.length<=4/\∀row∈d.Next,RowIn d.Next.length (ltd p) row:=by
 simp only[detOk,pairsOk,vv,decide_eq_true_eq,List.all_eq_true]at h
 obtain⟨⟨⟨h1,h2⟩,h3,_⟩,h4⟩:=h
 refine⟨by omega,by omega,by omega,λrow hr=>?_⟩
 have:=h4 row hr
 simp only[detRow,vv,beq_iff_eq,List.all_eq_true,ej]at this
 exact this
end
end Go.Proofs.Ytpcjbkgbnoocaaa
set_option linter.unusedVariables false
set_option linter.unusedSimpArgs false
namespace Go.Proofs.Ytpcjbkgbnoocaaa
open Go Go.Wk Go.Proofs
def ltr (p:Sig):Int:=pw p.In * pw p.Out
theorem kJ {p:Sig}(hs:sigOk p=true):4<=ltr p/\ltr p<=16:=by
 obtain⟨hi,ho⟩:=cM hs
 unfold ltr pw
 rcases hi with h | h <;> rcases ho with k | k <;> rw[h,k] <;> decide
theorem eH {p:Sig}(hs:sigOk p=true):cq p=some (ltr p):=by
 unfold cq
 rw[dj,hs]
 obtain⟨hi,ho⟩:=cM hs
 unfold ltr
 simp only[bt,vw,cond_false]
 rcases hi with h | h <;> rcases ho with k | k <;> rw[h,k] <;> decide
theorem iG {p:Sig}(hs:sigOk p=true):fu p=some (ltr p):=by
 unfold fu
 obtain⟨hi,ho⟩:=cM hs
 unfold ltr
 rcases hi with h | h <;> rcases ho with k | k <;> rw[h,k] <;> decide
def dh (p:Sig) (c:Clause):Bool:=decide (1<=c.Kind)&&decide (c.Kind<=7)&&cw (ltr p) c.A&&cw (ltr p) c.B&&(c.Kind==2||c.Kind==3||c.Kind==7||((c.B.length:Int)==0))
theorem lK {p:Sig}(hs:sigOk p=true){c:Clause}(hb:Clause.bd c):gx p c=some (dh p c):=by
 obtain⟨_,⟨hA,_⟩,⟨hB,_⟩⟩:=hb
 have hl:=kJ hs
 unfold gx dh gA
 rw[dj,hs,eH hs]
 simp only[bt,vw,cond_false,cT,j5 (xs:=c.A) (n:=ltr p) (by omega) (by omega) (by omega),j5 (xs:=c.B) (n:=ltr p) (by omega) (by omega) (by omega),orE,andE]
 generalize decide (1<=c.Kind)=b1
 generalize decide (c.Kind<=7)=b2
 generalize cw (ltr p) c.A=b3
 generalize cw (ltr p) c.B=b4
 generalize(c.Kind==2)=b5
 generalize(c.Kind==3)=b6
 generalize(c.Kind==7)=b7
 generalize((c.B.length:Int)==0)=b8
 cases b1 <;> cases b2 <;> cases b3 <;> cases b4 <;> cases b5 <;> cases b6 <;> cases b7 <;> cases b8 <;> rfl
theorem ov {p:Sig}(hs:sigOk p=true){c:Clause}(hb:Clause.bd c):lO p c=some (dh p c):=by
 obtain⟨_,⟨hA,_⟩,⟨hB,_⟩⟩:=hb
 unfold lO dh m5
 have e1:decide (c.Kind<1)= !decide (1<=c.Kind):=by rw[← decide_not];exact decide_eq_decide.2 (by omega)
 have e2:decide (7<c.Kind)= !decide (c.Kind<=7):=by rw[← decide_not];exact decide_eq_decide.2 (by omega)
 rw[iG hs,e1,e2]
 simp only[bt,l9 (xs:=c.A) (n:=ltr p) (by omega),l9 (xs:=c.B) (n:=ltr p) (by omega),orE,andE]
 generalize decide (1<=c.Kind)=b1
 generalize decide (c.Kind<=7)=b2
 generalize cw (ltr p) c.A=b3
 generalize cw (ltr p) c.B=b4
 generalize(c.Kind==2)=b5
 generalize(c.Kind==3)=b6
 generalize(c.Kind==7)=b7
 generalize((c.B.length:Int)==0)=b8
 cases b1 <;> cases b2 <;> cases b3 <;> cases b4 <;> cases b5 <;> cases b6 <;> cases b7 <;> cases b8 <;> rfl
theorem nH {p:Sig}(hs:sigOk p=true){cs:List Clause}(hb:∀c∈cs,Clause.bd c):eF p cs=some (decide ((cs.length:Int)<=3)&&cs.all (dh p)):=by
 unfold eF
 rw[dj,hs]
 have e:decide (3<(cs.length:Int))= !decide ((cs.length:Int)<=3):=by rw[← decide_not];exact decide_eq_decide.2 (by omega)
 simp only[bt,vw,cond_false,e]
 cases decide ((cs.length:Int)<=3) with
 | false=>rfl
 | true=>
  simp only[vw,cond_false,Bool.true_and]
  rw[cU (f:=ez p cs) (r:=false) (dh p) (xs:=cs) rfl (λi c hc=>by
   unfold ez
   rw[bC,hc,bt,lK hs (hb c (it hc)),bt]
   cases dh p c <;> rfl)]
  cases cs.all (dh p) <;> rfl
theorem np {p:Sig}(hs:sigOk p=true){cs:List Clause}(hb:∀c∈cs,Clause.bd c):ko p cs=some (decide ((cs.length:Int)<=3)&&cs.all (dh p)):=by
 unfold ko
 rw[cI (λc=> !dh p c) (λc hc=>by
  unfold fS
  rw[ov hs (hb c hc)];rfl)]
 simp only[bt,andE]
 rw[List.all_eq_not_any_not]
end Go.Proofs.Ytpcjbkgbnoocaaa
set_option linter.unusedVariables false
set_option linter.unusedSimpArgs false
namespace Go.Proofs.Ytpcjbkgbnoocaaa
open Go Go.Wk Go.Proofs
abbrev Key:=Int×Int
def loc (K:List Key) (k:Key):Option Nat:=K.findIdx? (λx=>k==x)
def addK (K:List Key) (k:Key):List Key:=match loc K k with | some _=>K | none=>K++[k]
def atK (K:List Key) (k:Key):Int:=match loc K k with | some i=>(i:Int) | none=>(K.length:Int)
theorem sH (K:List Key) (k:Key):K.length<=(addK K k).length/\(addK K k).length<=K.length+1:=by
 unfold addK
 cases loc K k <;> simp
theorem qy {K:List Key}{k:Key}{i:Nat}{v:Key}(h:K[i]? =some v):(addK K k)[i]? =some v:=by
 unfold addK
 cases loc K k with
 | some _=>exact h
 | none=>
  have:=(gs.1 h).1
  dsimp only
  rw[List.getElem?_append_left this];exact h
theorem sw {K:List Key}{k x:Key}(h:x∈addK K k):x∈K\/x=k:=by
 unfold addK at h
 cases e:loc K k with
 | some _=>rw[e]at h;exact .inl h
 | none=>rw[e]at h;simpa using h
theorem tx {K:List Key}{k:Key}{i:Nat}(h:loc K k=some i):K[i]? =some k:=by
 unfold loc at h
 obtain⟨h1,h2,h3⟩:=List.findIdx?_eq_some_iff_getElem.1 h
 have:k=K[i]:=by simpa using h2
 rw[bB h1,← this]
theorem sI {K:List Key}{k:Key}(h:loc K k=none):k∉K:=λhm=>by
 unfold loc at h
 rw[List.findIdx?_eq_none_iff]at h
 have:=h k hm
 simp at this
theorem tR (K:List Key) (k:Key):0<=atK K k/\(addK K k)[(atK K k).toNat]? =some k:=by
 unfold atK addK
 cases h:loc K k with
 | none=>exact⟨by dsimp only;omega,by dsimp only;rw[vz];simp⟩
 | some i=>exact⟨by dsimp only;omega,by dsimp only;rw[vz];exact tx h⟩
theorem qT {K:List Key}(hn:K.Nodup) (k:Key):(addK K k).Nodup:=by
 unfold addK
 cases h:loc K k with
 | none=>
  dsimp only
  refine List.nodup_append.2 ⟨hn,by simp,λa ha b hb e=>?_⟩
  rw[vy]at hb
  exact sI h (hb ▸ e ▸ ha)
 | some i=>exact hn
def rowK (ky:Int->Key) (K:List Key):Nat->List Key×List Int
 | 0=>(K,[])
 | j+1=>(addK (rowK ky K j).1 (ky j),(rowK ky K j).2++[atK (rowK ky K j).1 (ky j)])
structure RowK (ky:Int->Key) (K:List Key) (j:Nat) (K':List Key) (row:List Int):Prop where
 pre:∀(i:Nat) v,K[i]? =some v->K'[i]? =some v
 len:K.length<=K'.length
 le:K'.length<=K.length+j
 nod:K.Nodup->K'.Nodup
 rl:row.length=j
 at_:∀i:Nat,i<j->∃x,row[i]? =some x/\0<=x/\K'[x.toNat]? =some (ky i)
 mem:∀v∈K',v∈K\/∃i:Nat,i<j/\v=ky i
theorem lc (ky:Int->Key) (K:List Key):∀j,RowK ky K j (rowK ky K j).1 (rowK ky K j).2
 | 0=>⟨λ_ _ h=>h,Nat.le_refl _,Nat.le_refl _,id,rfl,λi hi=>absurd hi (Nat.not_lt_zero i),λv h=> .inl h⟩
 | j+1=>by
  have h:=lc ky K j
  unfold rowK
  generalize rowK ky K j=F at *
  have hl:=sH F.1 (ky j)
  obtain⟨a0,a1⟩:=tR F.1 (ky j)
  refine⟨λi v hv=>qy (h.pre i v hv),Nat.le_trans h.len hl.1,?_,λhn=>qT (h.nod hn) _,by simp[h.rl],λi hi=>?_,λv hv=>?_⟩
  · have:=h.le;dsimp only;omega
  · by_cases e:i=j
    · subst e
      refine⟨_,by rw[← h.rl];simp,a0,a1⟩
    · obtain⟨x,x1,x2,x3⟩:=h.at_ i (by omega)
      have hix:=(gs.1 x1).1
      exact⟨x,by rw[List.getElem?_append_left hix];exact x1,x2,qy x3⟩
  · rcases sw hv with hv | hv
    · rcases h.mem v hv with k | ⟨i,hi,e⟩
      · exact .inl k
      · exact .inr ⟨i,by omega,e⟩
    · exact .inr ⟨j,by omega,hv⟩
structure Prod (ky:Key->Int->Key) (k:Nat) (K:List Key) (i:Nat) (R:List (List Int)):Prop where
 nod:K.Nodup
 zero:K[0]? =some (0,0)
 il:i<=K.length
 rl:R.length=i
 row:∀(j:Nat) r,R[j]? =some r->r.length=k/\∃v,K[j]? =some v/\∀x:Nat,x<k->∃y,r[x]? =some y/\0<=y/\K[y.toNat]? =some (ky v x)
 src:∀(q:Nat) u,K[q]? =some u->q=0\/∃(j x:Nat) (v:Key),j<q/\j<i/\K[j]? =some v/\x<k/\u=ky v x
theorem Prod.init (ky:Key->Int->Key) (k:Nat):Prod ky k [(0,0)] 0 []:=⟨by simp,rfl,by simp,rfl,λj r h=>by simp at h,λq u h=>by
 cases q with
 | zero=>exact .inl rfl
 | succ q=>simp at h⟩
theorem Prod.step {ky:Key->Int->Key}{k:Nat}{K:List Key}{i:Nat}{R:List (List Int)}(h:Prod ky k K i R){v:Key}(hv:K[i]? =some v):Prod ky k (rowK (ky v) K k).1 (i+1) (R++[(rowK (ky v) K k).2]):=by
 have r:=lc (ky v) K k
 generalize rowK (ky v) K k=F at *
 have hi:=(gs.1 (r.pre i v hv)).1
 refine⟨r.nod h.nod,r.pre 0 _ h.zero,by omega,by simp[h.rl],λj row hj=>?_,λq u hq=>?_⟩
 rotate_left
 · have hiK:=(gs.1 hv).1
   by_cases e:q<K.length
   · have hq':K[q]? =some K[q]:=bB e
     have:=r.pre q _ hq'
     rw[hq]at this
     have e':u=K[q]:=Option.some.inj this
     rcases h.src q _ hq' with h0 | ⟨j,x,v',a1,a2,a3,a4,a5⟩
     · exact .inl h0
     · exact .inr ⟨j,x,v',a1,by omega,r.pre _ _ a3,a4,by rw[e',a5]⟩
   · rcases r.mem u (it hq) with hm | ⟨x,x1,x2⟩
     · obtain⟨q',hq'⟩:=List.getElem?_of_mem hm
       have hl':=(gs.1 hq').1
       have hq2:=r.pre q' u hq'
       have:=(List.getElem?_inj (by have:=(gs.1 hq2).1;exact this) (r.nod h.nod)).1 (hq2.trans hq.symm)
       omega
     · exact .inr ⟨i,x,v,by omega,Nat.lt_succ_self _,r.pre i v hv,x1,x2⟩
 by_cases e:j<R.length
 · rw[List.getElem?_append_left e]at hj
   obtain⟨a,v',b,c⟩:=h.row j row hj
   refine⟨a,v',r.pre j v' b,λx hx=>?_⟩
   obtain⟨y,y1,y2,y3⟩:=c x hx
   exact⟨y,y1,y2,r.pre _ _ y3⟩
 · have:j=i:=by
    have:=(gs.1 hj).1
    rw[vx]at this
    simp only[vA,vC]at this
    have:=h.rl
    omega
   subst this
   rw[← h.rl]at hj
   simp at hj
   subst hj
   exact⟨r.rl,v,r.pre _ _ hv,r.at_⟩
theorem qB {A B:Nat}{K:List Key}(hn:K.Nodup) (hk:∀v∈K,0<=v.1/\v.1<A/\0<=v.2/\v.2<B):K.length<=A * B:=by
 have hmul:∀a b:Int,a<b->a * B+B<=b * B:=λa b h=>by
  have:=Int.mul_le_mul_of_nonneg_right (show a+1<=b by omega) (show(0:Int)<=(B:Int) by omega)
  rwa [Int.add_mul,Int.one_mul]at this
 have h:=eD (A * B) (K.map λv=>v.1 * B+v.2) (by
  rw[List.Nodup,List.pairwise_map]
  refine List.Pairwise.imp_of_mem (λ{a b} ha hb hne e=>?_) hn
  obtain⟨a0,a1,a2,a3⟩:=hk a ha
  obtain⟨b0,b1,b2,b3⟩:=hk b hb
  by_cases h1:a.1<b.1
  · have:=hmul a.1 b.1 h1;omega
  · by_cases h2:b.1<a.1
    · have:=hmul b.1 a.1 h2;omega
    · have e1:a.1=b.1:=by omega
      rw[e1]at e
      exact hne (Prod.ext e1 (by omega))) (λx hx=>by
  obtain⟨v,hv,rfl⟩:=List.mem_map.1 hx
  obtain⟨a0,a1,a2,a3⟩:=hk v hv
  have h0:0<=v.1 * (B:Int):=Int.mul_nonneg a0 (by omega)
  have:=hmul v.1 A a1
  have e:((A * B:Nat):Int)=(A:Int) * (B:Int):=by simp
  rw[e]
  omega)
 rwa [vI]at h
def plK (part:Key->Int) (K:List Key) (S:List Int):Nat->List Int
 | 0=>[]
 | j+1=>plK part K S j++(match K[j]? with | some v=>if part v∈S then[(j:Int)] else[] | none=>[])
theorem pU (part:Key->Int) (K:List Key) (S:List Int):∀(j:Nat) (z:Int),z∈plK part K S j↔∃i:Nat,i<j/\z=(i:Int)/\∃v,K[i]? =some v/\part v∈S
 | 0,z=>by simp[plK]
 | j+1,z=>by
  unfold plK
  rw[vF,pU part K S j]
  constructor
  · rintro(⟨i,h1,h2⟩ | h)
    · exact⟨i,by omega,h2⟩
    · cases e:K[j]? with
      | none=>rw[e]at h;cases h
      | some v=>
       rw[e]at h
       dsimp only at h
       by_cases hv:part v∈S
       · rw[if_pos hv,vy]at h
         exact⟨j,by omega,h,v,e,hv⟩
       · rw[if_neg hv]at h;cases h
  · rintro⟨i,h1,h2,v,h3,h4⟩
    by_cases e:i=j
    · subst e
      right
      rw[h3]
      dsimp only
      rw[if_pos h4,vy]
      exact h2
    · exact .inl ⟨i,by omega,h2,v,h3,h4⟩
theorem rM (part:Key->Int) (K:List Key) (S:List Int):∀j:Nat,Asc (plK part K S j)
 | 0=>List.Pairwise.nil
 | j+1=>by
  unfold plK
  refine List.pairwise_append.2 ⟨rM part K S j,?_,λa ha b hb=>?_⟩
  · cases K[j]? with
    | none=>exact List.Pairwise.nil
    | some v=>dsimp only;split <;> simp
  · obtain⟨i,h1,h2,_⟩:=(pU part K S j a).1 ha
    have hb':b=(j:Int):=by
     cases e:K[j]? with
     | none=>rw[e]at hb;cases hb
     | some v=>
      rw[e]at hb
      dsimp only at hb
      split at hb
      · simpa using hb
      · cases hb
    omega
theorem rO (part:Key->Int) (K:List Key) (S:List Int):∀j:Nat,(plK part K S j).length<=j
 | 0=>Nat.le_refl _
 | j+1=>by
  unfold plK
  have:=rO part K S j
  rw[vx]
  have:(match K[j]? with | some v=>if part v∈S then[(j:Int)] else[] | none=>[]:List Int).length<=1:=by
   cases K[j]? with
   | none=>simp
   | some v=>dsimp only;split <;> simp
  omega
theorem th (part:Key->Int) (K:List Key) (S:List Int) (j:Nat):St j (plK part K S j):=⟨rM part K S j,λx hx=>by
 obtain⟨i,h1,h2,_⟩:=(pU part K S j x).1 hx
 omega⟩
end Go.Proofs.Ytpcjbkgbnoocaaa
set_option linter.unusedVariables false
set_option linter.unusedSimpArgs false
namespace Go.Proofs.Ytpcjbkgbnoocaaa
open Go Go.Wk Go.Proofs
def b01 (b:Bool):Int:=if b then 1 else 0
theorem kZ (b:Bool):0<=b01 b/\b01 b<=1:=by cases b <;> decide
def mx (x y:Int):Int:=if x<y then y else x
def monNext (k q:Int) (a b:Bool):Int:=
 if k=1 then mx q (1-b01 a)
 else if k=2 then(if q=2\/(q=1/\b=false) then 2 else b01 a)
 else if k=3 then(if b=true then 0 else mx q (b01 a))
 else if k=4 then b01 a
 else if k=5 then 1-b01 a
 else if k=6 then mx q (b01 a)
 else 2 * b01 a+b01 b
def monStates (k:Int):Nat:=if k=2 then 3 else if k=7 then 4 else 2
def monPair (k:Int):Pair:=
 if k=1\/k=5 then⟨[1],[]⟩ else if k=2 then⟨[2],[]⟩ else if k=3 then⟨[1],[0]⟩ else if k=4 then⟨[0,1],[1]⟩ else if k=6 then⟨[0],[]⟩ else⟨[2,3],[1,3]⟩
def numsN (n:Nat):List Int:=(List.range n).map (λi:Nat=>(i:Int))
theorem ka (n:Nat):numsN (n+1)=numsN n++[(n:Int)]:=by simp[numsN,List.range_succ]
theorem gK (n:Nat):(numsN n).length=n:=by simp[numsN]
def monRow (c:Clause) (n:Nat) (q:Int):List Int:=(numsN n).map λx=>monNext c.Kind q (decide (x∈c.A)) (decide (x∈c.B))
def monD (c:Clause) (n:Nat):Det:=⟨(numsN (monStates c.Kind)).map (monRow c n),[monPair c.Kind]⟩
theorem kinds {k:Int}(h1:1<=k) (h2:k<=7):k=1\/k=2\/k=3\/k=4\/k=5\/k=6\/k=7:=by omega
theorem ru {k q:Int}(h1:1<=k) (h2:k<=7) (q0:0<=q) (q1:q<monStates k) (a b:Bool):0<=monNext k q a b/\monNext k q a b<monStates k:=by
 rcases kinds h1 h2 with h | h | h | h | h | h | h <;> subst h <;> cases a <;> cases b <;> simp only[monNext,monStates,mx,b01]at * <;> simp at * <;> (repeat' split) <;> omega
section
variable {p:Sig}(hs:sigOk p=true){c:Clause}(hb:Clause.bd c) (hc:dh p c=true)
include hs hc
omit hs in
theorem ml:1<=c.Kind/\c.Kind<=7:=by
 unfold dh at hc
 simp only[vv,decide_eq_true_eq]at hc
 exact⟨hc.1.1.1.1,hc.1.1.1.2⟩
omit hs in
theorem r9 {q:Int}(q0:0<=q) (q1:q<=10) (x:Int):jE c q x=some (monNext c.Kind q (decide (x∈c.A)) (decide (x∈c.B))):=by
 obtain⟨k1,k2⟩:=ml hc
 unfold jE
 rw[oP,bt,oP]
 have hf:∀b:Bool,gh b=some (b01 b):=λb=>by unfold gh;cases b <;> rfl
 have hmx:∀x y:Int,eJ x y=some (mx x y):=λx y=>by
  unfold eJ mx
  by_cases h:y<x
  · rw[decide_eq_true h,if_neg (by omega)];rfl
  · rw[decide_eq_false h]
    by_cases h':x<y
    · rw[if_pos h'];rfl
    · rw[if_neg h']
      have:x=y:=by omega
      subst this;rfl
 rw[hf,bt,bt,hf,bt]
 generalize decide (x∈c.A)=a
 generalize decide (x∈c.B)=b
 have w1:IntKind.i64.wrap (1-b01 a)=1-b01 a:=by have:=kZ a;exact wr' (by omega) (by omega)
 have w2:IntKind.i64.wrap (2 * b01 a)=2 * b01 a:=by have:=kZ a;exact wr' (by omega) (by omega)
 have w3:IntKind.i64.wrap (2 * b01 a+b01 b)=2 * b01 a+b01 b:=by have:=kZ a;have:=kZ b;exact wr' (by omega) (by omega)
 rw[w1,w2,w3]
 rcases kinds k1 k2 with h | h | h | h | h | h | h <;> rw[h] <;> unfold monNext
 · simp[hmx]
 · by_cases hq2:q=2
   · subst hq2;simp
   · by_cases hq1:q=1
     · subst hq1;cases b <;> simp[b01]
     · have e1:(q==2)=false:=by simpa using hq2
       have e2:(q==1)=false:=by simpa using hq1
       simp[e1,e2,hq2,hq1]
 · cases b <;> simp[b01,hmx]
 · simp
 · simp
 · simp[hmx]
 · simp
omit hs in
theorem sf {q:Int}(q0:0<=q) (q1:q<=10) (a b:Bool):jv c.Kind q a b=some (monNext c.Kind q a b):=by
 obtain⟨k1,k2⟩:=ml hc
 unfold jv
 have e1:(bif a then some (1:Int) else some 0)=some (b01 a):=by cases a <;> rfl
 have e2:(bif b then some (true,(1:Int)) else some (false,(0:Int)))=some (b,b01 b):=by cases b <;> rfl
 rw[e1,e2,bt,bt]
 dsimp only
 have w1:IntKind.i64.wrap (1-b01 a)=1-b01 a:=by have:=kZ a;exact wr' (by omega) (by omega)
 have w2:IntKind.i64.wrap (2 * b01 a)=2 * b01 a:=by have:=kZ a;exact wr' (by omega) (by omega)
 have w3:IntKind.i64.wrap (2 * b01 a+b01 b)=2 * b01 a+b01 b:=by have:=kZ a;have:=kZ b;exact wr' (by omega) (by omega)
 rw[w1,w2,w3]
 rcases kinds k1 k2 with h | h | h | h | h | h | h <;> rw[h] <;> unfold monNext mx
 · simp
 · by_cases hq2:q=2
   · subst hq2;simp
   · by_cases hq1:q=1
     · subst hq1;cases b <;> simp[b01]
     · have e1:(q==2)=false:=by simpa using hq2
       have e2:(q==1)=false:=by simpa using hq1
       simp[e1,e2,hq2,hq1]
 · cases b <;> simp[b01]
 · simp
 · simp
 · simp
 · simp
include hb
theorem su {n:Nat}(hn:ltr p=n):gY p c=some (monD c n):=by
 obtain⟨k1,k2⟩:=ml hc
 obtain⟨l1,l2⟩:=kJ hs
 have hst:g8 c.Kind=some ((monStates c.Kind:Nat):Int):=by
  unfold g8 monStates
  rcases kinds k1 k2 with h | h | h | h | h | h | h <;> rw[h] <;> rfl
 have hpr:jS c.Kind=some (monPair c.Kind):=by
  unfold jS monPair
  rcases kinds k1 k2 with h | h | h | h | h | h | h <;> rw[h] <;> rfl
 have hns:monStates c.Kind<=4:=by unfold monStates;(repeat' split) <;> omega
 unfold gY
 rw[lK hs hb,hc,bt,vw,cond_false,hpr,bt]
 obtain⟨o,w1,w2⟩:=cm (f:=eA p c) (λj (s:Int×List (List Int))=>s.1=(j:Int)/\j<=monStates c.Kind/\s.2=(numsN j).map (monRow c n)) (λ_=>False) (λs=>s.2=(numsN (monStates c.Kind)).map (monRow c n)) (monStates c.Kind) (λj s ⟨a1,a2,a3⟩=>by
  obtain⟨q,xs⟩:=s
  dsimp only at a1 a3
  subst a1
  unfold eA
  dsimp only
  rw[hst,bt]
  by_cases hlt:j<monStates c.Kind
  · obtain⟨o2,v1,v2⟩:=cm (f:=eB p c ((j:Int),xs)) (λi (s:List Int×Int)=>s.2=(i:Int)/\i<=n/\s.1=(numsN i).map λx=>monNext c.Kind (j:Int) (decide (x∈c.A)) (decide (x∈c.B))) (λ_=>False) (λs=>s.1=monRow c n (j:Int)) n (λi s ⟨b1,b2,b3⟩=>by
     obtain⟨ys,x⟩:=s
     dsimp only at b1 b3
     subst b1
     unfold eB
     dsimp only
     rw[eH hs,bt,hn]
     by_cases hi:i<n
     · rw[decide_eq_true (show(i:Int)<(n:Int) by omega),cond_true,r9 hc (by omega) (by omega),bt,app1 (by rw[b3,vI,gK];omega) rfl,bt]
       refine⟨_,rfl,hi,by dsimp only;rw[wr' (by omega) (by omega)];omega,by omega,?_⟩
       dsimp only
       rw[b3,ka,List.map_append];rfl
     · have:i=n:=by omega
       subst this
       rw[decide_eq_false (Int.lt_irrefl _),cond_false]
       exact⟨_,rfl,b3⟩) (2 ^ 64) 0 ([],0) (by omega) ⟨rfl,Nat.zero_le _,rfl⟩ (by omega)
    match o2,v2 with
    | .inr s,v2=>
     have v2:s.1=monRow c n (j:Int):=v2
     rw[decide_eq_true (show(j:Int)<((monStates c.Kind:Nat):Int) by omega),cond_true,v1,bt,bD,app1 (by rw[a3,vI,gK];omega) rfl,bt]
     refine⟨_,rfl,hlt,by dsimp only;rw[wr' (by omega) (by omega)];omega,by omega,?_⟩
     dsimp only
     rw[a3,v2,ka,List.map_append];rfl
  · have:j=monStates c.Kind:=by omega
    rw[this]at a3 ⊢
    rw[decide_eq_false (Int.lt_irrefl _),cond_false]
    exact⟨_,rfl,a3⟩) (2 ^ 64) 0 (0,[]) (by omega) ⟨rfl,Nat.zero_le _,rfl⟩ (by omega)
 match o,w2 with
 | .inr s,w2=>
  have w2:s.2=(numsN (monStates c.Kind)).map (monRow c n):=w2
  rw[w1,bt,bD,w2];rfl
omit hb in
theorem ss {n:Nat}(hn:ltr p=n):kM p c=some (monD c n):=by
 obtain⟨k1,k2⟩:=ml hc
 obtain⟨l1,l2⟩:=kJ hs
 have hns:monStates c.Kind<=4:=by unfold monStates;(repeat' split) <;> omega
 have hrow:∀q:Nat,q<=10->cntM (gj c (q:Int)) n 0 []=some (.inr (monRow c n (q:Int))):=λq hq=>by
  obtain⟨s,h1,h2⟩:=bO (f:=gj c (q:Int)) (λi s=>s=(numsN i).map λx=>monNext c.Kind (q:Int) (decide (x∈c.A)) (decide (x∈c.B))) n (s:=[]) rfl (λi s hi hs'=>by
   subst hs'
   have hcon:∀l:List Int,bI l (i:Int)=some (decide ((i:Int)∈l)):=λl=>by
    rw[cX]
    congr 1
    rw[vD,List.any_eq_true,decide_eq_true_eq]
    exact⟨λ⟨y,hy,e⟩=>(show(i:Int)=y by simpa using e) ▸ hy,λh=>⟨_,h,by simp⟩⟩
   unfold gj
   rw[hcon,hcon,bt,bt,sf hc (by omega) (by omega),bt,app1 (by rw[vI,gK];omega) rfl,bt]
   exact⟨_,rfl,by rw[ka,List.map_append];rfl⟩)
  rw[h1,h2];rfl
 have hall:∀m:Nat,m<=4->cntM (gn p c) m 0 []=some (.inr ((numsN m).map (monRow c n))):=λm hm=>by
  obtain⟨s,h1,h2⟩:=bO (f:=gn p c) (λi s=>s=(numsN i).map (monRow c n)) m (s:=[]) rfl (λi s hi hs'=>by
   subst hs'
   have hr:rng (n:Int)=some ():=by unfold rng;rw[if_pos (by omega)]
   unfold gn
   rw[iG hs,bt,hn,hr,bt,Int.sub_zero,vz,hrow i (by omega),bt,bD,app1 (by rw[vI,gK];omega) rfl,bt]
   exact⟨_,rfl,by rw[ka,List.map_append];rfl⟩)
  rw[h1,h2]
 unfold kM monD monPair monStates
 rcases kinds k1 k2 with h | h | h | h | h | h | h <;> rw[h]
 · have:=hall 2 (by omega)
   simp[rng,this,bD]
 · have:=hall 3 (by omega)
   simp[rng,this,bD]
 · have:=hall 2 (by omega)
   simp[rng,this,bD]
 · have:=hall 2 (by omega)
   simp[rng,this,bD]
 · have:=hall 2 (by omega)
   simp[rng,this,bD]
 · have:=hall 2 (by omega)
   simp[rng,this,bD]
 · have:=hall 4 (by omega)
   simp[rng,this,bD]
omit hs hb in
theorem tM {n:Nat}(hn:ltr p=n):detOk p (monD c n)=true/\(monD c n).Pairs.length=1:=by
 obtain⟨k1,k2⟩:=ml hc
 have hl:(monD c n).Next.length=monStates c.Kind:=by
  show((numsN _).map _).length=_
  rw[vI,gK]
 refine⟨?_,rfl⟩
 unfold detOk
 rw[hl]
 have hns:1<=monStates c.Kind/\monStates c.Kind<=4:=by unfold monStates;(repeat' split) <;> omega
 have hp:pairsOk (monD c n).Pairs (monStates c.Kind:Int)=true:=by
  show pairsOk [monPair c.Kind] _=true
  unfold monPair monStates
  rcases kinds k1 k2 with h | h | h | h | h | h | h <;> rw[h] <;> decide
 have hr:((monD c n).Next.all (detRow p (monStates c.Kind:Int)))=true:=by
  rw[List.all_eq_true]
  intro row hrow
  obtain⟨q,hq,rfl⟩:=List.mem_map.1 (show row∈(numsN (monStates c.Kind)).map (monRow c n) from hrow)
  obtain⟨i,hi,rfl⟩:=List.mem_map.1 hq
  rw[List.mem_range]at hi
  unfold detRow monRow
  rw[vI,gK,vv,List.all_eq_true]
  refine⟨by rw[beq_iff_eq];unfold ltd;unfold ltr at hn;exact hn.symm,λx hx=>?_⟩
  obtain⟨y,_,rfl⟩:=List.mem_map.1 hx
  exact ej.2 (ru k1 k2 (by omega) (by omega) _ _)
 rw[hp,hr,decide_eq_true (by omega),decide_eq_true (by omega)];rfl
end
end Go.Proofs.Ytpcjbkgbnoocaaa
set_option linter.unusedVariables false
set_option linter.unusedSimpArgs false
namespace Go.Proofs.Ytpcjbkgbnoocaaa
open Go Go.Wk Go.Proofs
def kyJ (a b:Det) (v:Key) (x:Int):Key:=(tab a.Next v.1 x,tab b.Next v.2 x)
def toL (v:Key):List Int:=[v.1,v.2]
def plP (part:Key->Int) (K:List Key) (p:Pair):Pair:=⟨plK part K p.Ask K.length,plK part K p.Give K.length⟩
def jD (a b:Det) (K:List Key) (R:List (List Int)):Det:=⟨R,a.Pairs.map (plP (·.1) K)++b.Pairs.map (plP (·.2) K)⟩
def zeroD:Det:=⟨[],[]⟩
def locI (K:List Key) (k:Key):Int:=match loc K k with | some i=>(i:Int) | none=> -1
theorem rP {α:Type}{F:List Key->Int->Option α}{K:List Key}{k:Key}{app:Option (List Key)}(ha:app=some (K++[k])):
 (br (bif decide (locI K k<0) then br app λx=>some (x,(K.length:Int)) else some (K,locI K k)) λq=>F q.1 q.2)=F (addK K k) (atK K k):=by
 unfold locI addK atK
 cases h:loc K k with
 | none=>
  dsimp only
  rw[decide_eq_true (by omega),cond_true,ha];rfl
 | some i=>
  dsimp only
  rw[decide_eq_false (by omega),cond_false];rfl
theorem sA {K:List Key}(hl:K.length<=1000) (k:Key):jd (K.map toL) k.1 k.2=some (locI K k):=by
 unfold jd
 rw[ee (f:=eW (K.map toL) k.1 k.2) (λl=>l==toL k) (λi=>(i:Int)) (xs:=K.map toL) (λi l hl=>by
  rw[List.getElem?_map]at hl
  obtain⟨v,hv,rfl⟩:=Option.map_eq_some_iff.1 hl
  unfold eW
  rw[bC,List.getElem?_map,hv]
  show br (some (toL v)) _=_
  rw[bt]
  show br (some v.1) _=_
  rw[bt]
  have e:(toL v==toL k)=(v.1==k.1&&v.2==k.2):=by
   rw[vD]
   simp[toL]
  rw[e]
  cases h1:v.1==k.1 with
  | false=>rfl
  | true=>
   rw[cond_true]
   show br (br (some (toL v)) λx25=>br (idx x25 1) λx27=>some (x27==k.2)) _=_
   rw[bt]
   show br (br (some v.2) λx27=>some (x27==k.2)) _=_
   rw[bt,bt]
   cases v.2==k.2 <;> rfl),bt]
 unfold locI loc
 have hf:(K.map toL).findIdx? (λl=>l==toL k)=K.findIdx? (λx=>k==x):=by
  rw[List.findIdx?_map]
  congr 1
  funext v
  rw[vD]
  simp only[Function.comp_apply,beq_iff_eq,toL,List.cons.injEq,and_true]
  exact⟨λ⟨h1,h2⟩=>Prod.ext h1.symm h2.symm,λh=>by rw[h];exact⟨rfl,rfl⟩⟩
 rw[hf]
 cases K.findIdx? (λx=>k==x) <;> rfl
theorem sD {K:List Key}(k:Key):cL K k=some (locI K k):=by
 unfold cL
 rw[ee (f:=cB K k) (λx=>k==x) (λi=>(i:Int)) (xs:=K) (λi x hx=>by
  unfold cB
  rw[bC,hx,bt]
  have e:(k.1==x.1&&k.2==x.2)=(k==x):=by
   rw[vD]
   simp only[vv,beq_iff_eq]
   exact⟨λ⟨h1,h2⟩=>Prod.ext h1 h2,λh=>by rw[h];exact⟨rfl,rfl⟩⟩
  first
   | rw[e]
   | skip
  cases k==x <;> rfl),bt]
 unfold locI loc
 cases K.findIdx? (λx=>k==x) <;> rfl
section
variable {p:Sig}{a b:Det}(ha:detOk p a=true) (hb:detOk p b=true){k:Nat}(hk:ltd p=k)
include ha hb hk
theorem ry {v:Key}(v0:0<=v.1) (v1:v.1<a.Next.length) (v2:0<=v.2) (v3:v.2<b.Next.length){x:Nat}(hx:x<k):
 ∃r s,idx a.Next v.1=some r/\idx r (x:Int)=some (kyJ a b v x).1/\idx b.Next v.2=some s/\idx s (x:Int)=some (kyJ a b v x).2/\0<=(kyJ a b v x).1/\(kyJ a b v x).1<a.Next.length/\0<=(kyJ a b v x).2/\(kyJ a b v x).2<b.Next.length:=by
 obtain⟨_,_,_,n1⟩:=gL ha
 obtain⟨_,_,_,n2⟩:=gL hb
 obtain⟨r,r1,r2,r3,r4⟩:=oY n1 v0 v1 (i:=(x:Int)) (by omega) (by omega)
 obtain⟨s,s1,s2,s3,s4⟩:=oY n2 v2 v3 (i:=(x:Int)) (by omega) (by omega)
 exact⟨r,s,r1,r2,s1,s2,r3,r4,s3,s4⟩
def KinJ (a b:Det) (K:List Key):Prop:=∀v∈K,0<=v.1/\v.1<a.Next.length/\0<=v.2/\v.2<b.Next.length
theorem tX {K:List Key}(hK:KinJ a b K){v:Key}(hv:v∈K):KinJ a b (rowK (kyJ a b v) K k).1:=λu hu=>by
 obtain⟨v0,v1,v2,v3⟩:=hK v hv
 rcases(lc (kyJ a b v) K k).mem u hu with h | ⟨i,hi,e⟩
 · exact hK u h
 · subst e
   obtain⟨_,_,_,_,_,_,h⟩:=ry ha hb hk v0 v1 v2 v3 hi
   exact h
theorem uX {K:List Key}(hl:K.length<=48) (h16:k<=16) (hK:KinJ a b K){i:Nat}{v:Key}(hv:K[i]? =some v){R:List (List Int)}{row:List Int}(hr:idx a.Next v.1=some row) (hrl:row.length=k):
 cntM (gk b (K,(i:Int),R) row) k 0 (K,[])=some (.inr (rowK (kyJ a b v) K k)):=by
 obtain⟨v0,v1,v2,v3⟩:=hK v (it hv)
 obtain⟨s,h1,h2,_⟩:=bO (f:=gk b (K,(i:Int),R) row) (λj s=>s=rowK (kyJ a b v) K j/\j<=k) k (s:=(K,[])) ⟨rfl,Nat.zero_le _⟩ (λj s hj ⟨e,_⟩=>by
  subst e
  obtain⟨r,s,r1,r2,s1,s2,_⟩:=ry ha hb hk v0 v1 v2 v3 hj
  rw[hr]at r1
  cases r1
  have rk:=lc (kyJ a b v) K j
  have hlt:=rk.le
  have hrl':=rk.rl
  refine⟨rowK (kyJ a b v) K (j+1),?_,rfl,hj⟩
  unfold gk
  dsimp only
  rw[r2,bt,bC,rk.pre i v hv,bt,s1,bt,s2,bt]
  have hix:=sD (K:=(rowK (kyJ a b v) K j).1) (kyJ a b v j)
  rw[show((kyJ a b v j).1,(kyJ a b v j).2)=kyJ a b v j from rfl,hix,bt]
  have hst:=rP (K:=(rowK (kyJ a b v) K j).1) (k:=kyJ a b v j) (F:=λx y=>br (appS 8 (rowK (kyJ a b v) K j).2 [y]) λx83=>(some (.inr (.inr (x,x83))):Option ((Det×Bool)⊕((List Key×List Int)⊕(List Key×List Int))))) (app:=appS 16 (rowK (kyJ a b v) K j).1 [kyJ a b v j]) (app1 (by omega) rfl)
  refine Eq.trans hst ?_
  show br (appS 8 (rowK (kyJ a b v) K j).2 [_]) _=_
  rw[app1 (by omega) rfl,bt]
  rfl)
 rw[h1,h2]
theorem ur {K:List Key}(hl:K.length<=48) (h16:k<=16) (hK:KinJ a b K){i:Nat}{v:Key}(hv:K[i]? =some v){M:List (List Int)}{R:List (List Int)}:
 cntM (du a b (M,(i:Int),R)) k 0 (K.map toL,[])=some (.inr ((rowK (kyJ a b v) K k).1.map toL,(rowK (kyJ a b v) K k).2)):=by
 obtain⟨v0,v1,v2,v3⟩:=hK v (it hv)
 obtain⟨s,h1,h2,_⟩:=bO (f:=du a b (M,(i:Int),R)) (λj s=>s=((rowK (kyJ a b v) K j).1.map toL,(rowK (kyJ a b v) K j).2)/\j<=k) k (s:=(K.map toL,[])) ⟨rfl,Nat.zero_le _⟩ (λj s hj ⟨e,_⟩=>by
  subst e
  obtain⟨r,s,r1,r2,s1,s2,_⟩:=ry ha hb hk v0 v1 v2 v3 hj
  have rk:=lc (kyJ a b v) K j
  have hlt:=rk.le
  have hrl':=rk.rl
  refine⟨((rowK (kyJ a b v) K (j+1)).1.map toL,(rowK (kyJ a b v) K (j+1)).2),?_,rfl,hj⟩
  unfold du
  dsimp only
  have g1:idx ((rowK (kyJ a b v) K j).1.map toL) (i:Int)=some (toL v):=by
   rw[bC,List.getElem?_map,rk.pre i v hv];rfl
  have g2:idx (toL v) 0=some v.1:=rfl
  have g3:idx (toL v) 1=some v.2:=rfl
  rw[g1,bt,g2,bt,r1,bt,r2,bt,bt,g3,bt,s1,bt,s2,bt,sA (by omega),bt]
  have hst:=rP (K:=(rowK (kyJ a b v) K j).1) (k:=kyJ a b v j) (F:=λx y=>br (appS 8 (rowK (kyJ a b v) K j).2 [y]) λx83=>(some (.inr (.inr (x.map toL,x83))):Option ((Det×Bool)⊕(((List (List Int))×List Int)⊕((List (List Int))×List Int))))) (app:=some ((rowK (kyJ a b v) K j).1++[kyJ a b v j])) rfl
  rw[app1 (by omega) rfl]at hst
  have e2:appS 24 ((rowK (kyJ a b v) K j).1.map toL) [[(kyJ a b v j).1,(kyJ a b v j).2]]=some (((rowK (kyJ a b v) K j).1++[kyJ a b v j]).map toL):=by
   rw[app1 (by rw[vI];omega) rfl,List.map_append];rfl
  rw[e2,vI]
  rw[bt]at hst
  cases hd:decide (locI (rowK (kyJ a b v) K j).1 (kyJ a b v j)<0) with
  | true=>
   rw[hd]at hst
   simp only[cond_true,bt]at hst ⊢
   exact hst
  | false=>
   rw[hd]at hst
   simp only[cond_false,bt]at hst ⊢
   exact hst)
 rw[h1,h2]
end
end Go.Proofs.Ytpcjbkgbnoocaaa
