/- The functions on data. By program. -/
import Derived.Test.YtmiilifclnanlaaGreatTypesEE
set_option linter.unusedVariables false
set_option linter.unusedSimpArgs false
namespace Go.Proofs.YtmiilifclnanlaaGreat
open Go Go.Wk Go.Proofs
set_option maxRecDepth 100000
set_option maxHeartbeats 1000000
def l_big (p0:(List Int)):Option (Bool):=
 some (decide (4096<(p0.length:Int)):Bool)
def s_l1New_b0 (p0:(List Int)) (v4:Int) (s1:Int):Option (l1Cur⊕((Int)⊕(Int))):=
 Option.bind (idx p0 v4) fun x18=>
 some (.inr (.inr ((IntKind.i64.wrap (BitVec.toNat (BitVec.ofInt (IntKind.bits IntKind.i64) (IntKind.i64.wrap ((IntKind.i64.wrap ((IntKind.i64.wrap (s1 * 313))+(IntKind.i64.wrap x18)))+11)) &&& BitVec.ofInt (IntKind.bits IntKind.i64) 1073741823))):Int)))
def s_l1New (p0:(List Int)):Option (l1Cur):=
 Option.bind (cntM (s_l1New_b0 p0) p0.length 0 ((IntKind.i64.wrap (560017+(p0.length:Int))):Int)) fun q2=>
 aft (fun r=>some r) (fun s3=>
  some ((⟨p0,0,s3⟩:l1Cur):l1Cur)) q2
def s_l1Byte (p0:l1Cur):Option (Int×Int×Int):=
 Option.bind (bif decide (p0.i<(p0.b.length:Int)) then
  Option.bind (idx p0.b p0.i) fun x44=>
  some (((IntKind.i64.wrap (BitVec.toNat (BitVec.ofInt (IntKind.bits IntKind.i64) (IntKind.i64.wrap ((IntKind.i64.wrap (BitVec.toNat (BitVec.ofInt (IntKind.bits IntKind.i64) (IntKind.i64.wrap (BitVec.toNat (BitVec.ofInt (IntKind.bits IntKind.i64) (Int.fdiv (IntKind.i64.wrap ((IntKind.i64.wrap (p0.h * 6364136223846793005))+1442695040888963407)) (2 ^ (min (Int.toNat 33) (IntKind.bits IntKind.i64)))) ^^^ BitVec.ofInt (IntKind.bits IntKind.i64) (Int.fdiv (IntKind.i64.wrap ((IntKind.i64.wrap (p0.h * 6364136223846793005))+1442695040888963407)) (2 ^ (min (Int.toNat 45) (IntKind.bits IntKind.i64))))))) &&& BitVec.ofInt (IntKind.bits IntKind.i64) 255)))+(IntKind.i64.wrap x44))) &&& BitVec.ofInt (IntKind.bits IntKind.i64) 255))):Int),((IntKind.i64.wrap (p0.i+1)):Int))
 else
  some (((IntKind.i64.wrap (BitVec.toNat (BitVec.ofInt (IntKind.bits IntKind.i64) (IntKind.i64.wrap (BitVec.toNat (BitVec.ofInt (IntKind.bits IntKind.i64) (Int.fdiv (IntKind.i64.wrap ((IntKind.i64.wrap (p0.h * 6364136223846793005))+1442695040888963407)) (2 ^ (min (Int.toNat 33) (IntKind.bits IntKind.i64)))) ^^^ BitVec.ofInt (IntKind.bits IntKind.i64) (Int.fdiv (IntKind.i64.wrap ((IntKind.i64.wrap (p0.h * 6364136223846793005))+1442695040888963407)) (2 ^ (min (Int.toNat 45) (IntKind.bits IntKind.i64))))))) &&& BitVec.ofInt (IntKind.bits IntKind.i64) 255))):Int),(p0.i:Int))) fun q1=>
 some ((q1.1:Int),(q1.2:Int),((IntKind.i64.wrap ((IntKind.i64.wrap (p0.h * 6364136223846793005))+1442695040888963407)):Int))
def s_l1Below (p0:l1Cur) (p1:Int):Option (Int×Int×Int):=
 bif decide (p1≤0) then
  some ((0:Int),(p0.i:Int),(p0.h:Int))
 else
  bif decide (p1≤256) then
   Option.bind (s_l1Byte p0) fun x14=>
   Option.bind (nz p1) fun _z16=>
   some (((Int.tmod x14.1 p1):Int),(x14.2.1:Int),(x14.2.2:Int))
  else
   Option.bind (s_l1Byte p0) fun x18=>
   Option.bind (s_l1Byte (⟨p0.b,x18.2.1,x18.2.2⟩:l1Cur)) fun x20=>
   Option.bind (s_l1Byte (⟨p0.b,x20.2.1,x20.2.2⟩:l1Cur)) fun x22=>
   Option.bind (s_l1Byte (⟨p0.b,x22.2.1,x22.2.2⟩:l1Cur)) fun x24=>
   Option.bind (nz p1) fun _z36=>
   some (((Int.tmod (IntKind.i64.wrap ((IntKind.i64.wrap ((IntKind.i64.wrap ((IntKind.i64.wrap (x18.1 * 16777216))+(IntKind.i64.wrap (x20.1 * 65536))))+(IntKind.i64.wrap (x22.1 * 256))))+x24.1)) p1):Int),(x24.2.1:Int),(x24.2.2:Int))
def s_l1Copy (p0:(List Int)):Option ((List Int)):=
 Option.bind (appS 8 ([]:List Int) p0) fun x5=>
 some (x5:(List Int))
def s_l1Into_b0 (p0:(List Int)) (p1:Int) (s1:Int):Option ((List Int)⊕((Int)⊕(Int))):=
 Option.bind (bif decide (s1<(p0.length:Int)) then
 Option.bind (idx p0 s1) fun x14=>
 some (decide (x14<p1))
 else
 some false) fun p18=>
 bif p18 then
  some (.inr (.inr ((IntKind.i64.wrap (s1+1)):Int)))
 else
  some (.inr (.inl (s1:Int)))
def s_l1Into (p0:(List Int)) (p1:Int):Option ((List Int)):=
 Option.bind (whileM (s_l1Into_b0 p0 p1) (2 ^ 64) (0:Int)) fun q2=>
 aft (fun r=>some r) (fun s3=>
  Option.bind (bif decide (s3<(p0.length:Int)) then
  Option.bind (idx p0 s3) fun x28=>
  some (x28==p1)
  else
  some false) fun p32=>
  bif p32 then
   some (p0:(List Int))
  else
   Option.bind (subS p0 0 s3) fun x36=>
   Option.bind (s_l1Copy x36) fun x37=>
   Option.bind (appS 8 x37 ([p1]:List Int)) fun x40=>
   Option.bind (subS p0 s3 (p0.length:Int)) fun x44=>
   Option.bind (appS 8 x40 x44) fun x45=>
   some (x45:(List Int))) q2
def s_l1Once (p0:l1Cur) (p1:Int):Option (Bool×Int×Int):=
 Option.bind (s_l1Below p0 p1) fun x7=>
 some (((x7.1==0):Bool),(x7.2.1:Int),(x7.2.2:Int))
def s_l1Odd (p0:l1Cur):Option (Int×Int×Int):=
 Option.bind (s_l1Below p0 10) fun x5=>
 Option.bind (idx ([(-1),0,1,2147483648,(-2147483648),1099511627776,4611686018427387904,(-4611686018427387904),9223372036854775807,(-9223372036854775808)]:List Int) x5.1) fun x6=>
 some ((x6:Int),(x5.2.1:Int),(x5.2.2:Int))
def s_l1Min (p0:Int) (p1:Int):Option (Int):=
 bif decide (p0<p1) then
  some (p0:Int)
 else
  some (p1:Int)
def s_l1Num (p0:l1Cur) (p1:Int):Option (Int×Int×Int):=
 Option.bind (s_l1Once p0 10) fun x6=>
 bif x6.1 then
  Option.bind (s_l1Odd (⟨p0.b,x6.2.1,x6.2.2⟩:l1Cur)) fun x11=>
  Option.bind (s_l1Below (⟨p0.b,x11.2.1,x11.2.2⟩:l1Cur) 4) fun x14=>
  Option.bind (idx ([(-1),p1,(IntKind.i64.wrap (p1+1)),x11.1]:List Int) x14.1) fun x15=>
  some ((x15:Int),(x14.2.1:Int),(x14.2.2:Int))
 else
  Option.bind (s_l1Once (⟨p0.b,x6.2.1,x6.2.2⟩:l1Cur) 2) fun x18=>
  bif x18.1 then
   Option.bind (s_l1Min p1 4) fun x21=>
   Option.bind (s_l1Below (⟨p0.b,x18.2.1,x18.2.2⟩:l1Cur) (IntKind.i64.wrap (x21+1))) fun x23=>
   some ((x23.1:Int),(x23.2.1:Int),(x23.2.2:Int))
  else
   Option.bind (s_l1Below (⟨p0.b,x18.2.1,x18.2.2⟩:l1Cur) (IntKind.i64.wrap (p1+1))) fun x27=>
   some ((x27.1:Int),(x27.2.1:Int),(x27.2.2:Int))
def s_l1From (p0:l1Cur) (p1:Int) (p2:Int):Option (Int×Int×Int):=
 Option.bind (s_l1Below p0 (IntKind.i64.wrap ((IntKind.i64.wrap (p2-p1))+1))) fun x13=>
 some (((IntKind.i64.wrap (p1+x13.1)):Int),(x13.2.1:Int),(x13.2.2:Int))
def s_l1Into__own0_b0 (p0:(List Int)) (p1:Int) (s1:Int):Option ((List Int)⊕((Int)⊕(Int))):=
 Option.bind (bif decide (s1<(p0.length:Int)) then
 Option.bind (idx p0 s1) fun x14=>
 some (decide (x14<p1))
 else
 some false) fun p18=>
 bif p18 then
  some (.inr (.inr ((IntKind.i64.wrap (s1+1)):Int)))
 else
  some (.inr (.inl (s1:Int)))
def s_l1Into__own0 (p0:(List Int)) (p1:Int):Option ((List Int)):=
 Option.bind (whileM (s_l1Into__own0_b0 p0 p1) (2 ^ 64) (0:Int)) fun q2=>
 aft (fun r=>some r) (fun s3=>
  Option.bind (bif decide (s3<(p0.length:Int)) then
  Option.bind (idx p0 s3) fun x28=>
  some (x28==p1)
  else
  some false) fun p32=>
  bif p32 then
   some (p0:(List Int))
  else
   Option.bind (subS p0 0 s3) fun x36=>
   Option.bind (s_l1Copy x36) fun x37=>
   Option.bind (appS 8 x37 ([p1]:List Int)) fun x40=>
   Option.bind (subS p0 s3 (p0.length:Int)) fun x44=>
   Option.bind (appS 8 x40 x44) fun x45=>
   some (x45:(List Int))) q2
def s_l1Draw_b2 (p0:l1Cur) (x9:Int×Int×Int) (s4:(List Int)×Int×Int×Int):Option ((Arena×Int×Int)⊕(((List Int)×Int×Int×Int)⊕((List Int)×Int×Int×Int))):=
 bif decide (0<s4.2.1) then
  Option.bind (s_l1Below (⟨p0.b,s4.2.2.1,s4.2.2.2⟩:l1Cur) (IntKind.i64.wrap (1+x9.1))) fun x28=>
  Option.bind (s_l1Into__own0 s4.1 x28.1) fun x29=>
  some (.inr (.inr ((x29:(List Int)),((IntKind.i64.wrap (s4.2.1-1)):Int),(x28.2.1:Int),(x28.2.2:Int))))
 else
  some (.inr (.inl ((s4.1:(List Int)),(s4.2.1:Int),(s4.2.2.1:Int),(s4.2.2.2:Int))))
def s_l1Draw_b0 (p0:l1Cur) (x9:Int×Int×Int) (v5:Int) (s1:Int×Int×(List Int)×(List (List Int))):Option ((Arena×Int×Int)⊕((Int×Int×(List Int)×(List (List Int)))⊕(Int×Int×(List Int)×(List (List Int))))):=
 Option.bind (s_l1Below (⟨p0.b,s1.1,s1.2.1⟩:l1Cur) 3) fun x19=>
 Option.bind (whileM (s_l1Draw_b2 p0 x9) (2 ^ 64) ((([]:List Int):(List Int)),((IntKind.i64.wrap (1+x19.1)):Int),(x19.2.1:Int),(x19.2.2:Int))) fun q5=>
 aft (fun r=>some (.inl r)) (fun s6=>
  Option.bind (s_l1Below (⟨p0.b,s6.2.2.1,s6.2.2.2⟩:l1Cur) 2) fun x33=>
  Option.bind (appS 8 s1.2.2.1 ([x33.1]:List Int)) fun x35=>
  Option.bind (appS 24 s1.2.2.2 ([s6.1]:List (List Int))) fun x41=>
  some (.inr (.inr ((x33.2.1:Int),(x33.2.2:Int),(x35:(List Int)),(x41:(List (List Int))))))) q5
def s_l1Draw (p0:l1Cur):Option (Arena×Int×Int):=
 Option.bind (s_l1Below p0 8) fun x9=>
 Option.bind (rng (IntKind.i64.wrap (1+x9.1))) fun _=>
 Option.bind (cntM (s_l1Draw_b0 p0 x9) (Int.toNat ((IntKind.i64.wrap (1+x9.1))-0)) 0 ((x9.2.1:Int),(x9.2.2:Int),(([]:List Int):(List Int)),(([]:List (List Int)):(List (List Int))))) fun q2=>
 aft (fun r=>some r) (fun s3=>
  some (((⟨s3.2.2.1,s3.2.2.2⟩:Arena):Arena),(s3.1:Int),(s3.2.1:Int))) q2
def s_l1DrawAny_b1 (p0:l1Cur) (s7:Int×Int×Int×(List Int)×(List (List Int))):Option ((Arena×Int×Int)⊕((Int×Int×Int×(List Int)×(List (List Int)))⊕(Int×Int×Int×(List Int)×(List (List Int))))):=
 Option.bind (s_l1Below (⟨p0.b,s7.2.1,s7.2.2.1⟩:l1Cur) 2) fun x59=>
 bif decide (s7.1<(IntKind.i64.wrap (256+x59.1))) then
  Option.bind (appS 8 s7.2.2.2.1 ([(Int.tmod s7.1 2)]:List Int)) fun x69=>
  Option.bind (appS 24 s7.2.2.2.2 ([([(IntKind.i64.wrap (Int.tdiv s7.1 2))]:List Int)]:List (List Int))) fun x77=>
  some (.inr (.inr (((IntKind.i64.wrap (s7.1+1)):Int),(x59.2.1:Int),(x59.2.2:Int),(x69:(List Int)),(x77:(List (List Int))))))
 else
  some (.inr (.inl ((s7.1:Int),(x59.2.1:Int),(x59.2.2:Int),(s7.2.2.2.1:(List Int)),(s7.2.2.2.2:(List (List Int))))))
def s_l1DrawAny (p0:l1Cur):Option (Arena×Int×Int):=
 Option.bind (s_l1Draw p0) fun x7=>
 Option.bind (s_l1Once (⟨p0.b,x7.2.1,x7.2.2⟩:l1Cur) 6) fun x9=>
 Option.bind (bif x9.1 then
  Option.bind (s_l1Below (⟨p0.b,x9.2.1,x9.2.2⟩:l1Cur) (x7.1.Owner.length:Int)) fun x14=>
  Option.bind (s_l1Below (⟨p0.b,x14.2.1,x14.2.2⟩:l1Cur) 6) fun x16=>
  Option.bind (bif (x16.1==0) then
   Option.bind (s_l1From (⟨p0.b,x16.2.1,x16.2.2⟩:l1Cur) (-1) 2) fun x23=>
   Option.bind (idx x7.1.Owner x14.1) fun x24=>
   Option.bind (setI x7.1.Owner x14.1 x23.1) fun y49=>
   some ((x23.2.1:Int),(x23.2.2:Int),(y49:(List Int)),(x7.1.Next:(List (List Int))))
  else
   Option.bind (bif (x16.1==1) then
    Option.bind (idx x7.1.Next x14.1) fun x33=>
    Option.bind (s_l1Num (⟨p0.b,x16.2.1,x16.2.2⟩:l1Cur) 256) fun x36=>
    Option.bind (appS 8 x33 ([x36.1]:List Int)) fun x38=>
    Option.bind (idx x7.1.Next x14.1) fun x39=>
    Option.bind (setI x7.1.Next x14.1 (x38:(List Int))) fun y52=>
    some ((x36.2.1:Int),(x36.2.2:Int),(x7.1.Owner:(List Int)),(y52:(List (List Int))))
   else
    Option.bind (bif (x16.1==2) then
     Option.bind (idx x7.1.Next x14.1) fun x46=>
     Option.bind (setI x7.1.Next x14.1 (([]:List Int):(List Int))) fun y54=>
     some ((x16.2.1:Int),(x16.2.2:Int),(x7.1.Owner:(List Int)),(y54:(List (List Int))))
    else
     Option.bind (bif (x16.1==3) then
      Option.bind (appS 8 x7.1.Owner ([0]:List Int)) fun x52=>
      some ((x16.2.1:Int),(x16.2.2:Int),(x52:(List Int)),(x7.1.Next:(List (List Int))))
     else
      Option.bind (bif (x16.1==4) then
       Option.bind (whileM (s_l1DrawAny_b1 p0) (2 ^ 64) ((0:Int),(x16.2.1:Int),(x16.2.2:Int),(([]:List Int):(List Int)),(([]:List (List Int)):(List (List Int))))) fun q8=>
       aft (fun r=>none) (fun s9=>
        some ((s9.2.1:Int),(s9.2.2.1:Int),(s9.2.2.2.1:(List Int)),(s9.2.2.2.2:(List (List Int))))) q8
      else
       Option.bind (bif (x16.1==5) then
        Option.bind (mkS 8 17 (0:Int)) fun x84=>
        Option.bind (idx x7.1.Next x14.1) fun x85=>
        Option.bind (setI x7.1.Next x14.1 (x84:(List Int))) fun y61=>
        some (y61:(List (List Int)))
       else
        some (x7.1.Next:(List (List Int)))) fun q10=>
       some ((x16.2.1:Int),(x16.2.2:Int),(x7.1.Owner:(List Int)),(q10:(List (List Int))))) fun q6=>
      some ((q6.1:Int),(q6.2.1:Int),(q6.2.2.1:(List Int)),(q6.2.2.2:(List (List Int))))) fun q5=>
     some ((q5.1:Int),(q5.2.1:Int),(q5.2.2.1:(List Int)),(q5.2.2.2:(List (List Int))))) fun q4=>
    some ((q4.1:Int),(q4.2.1:Int),(q4.2.2.1:(List Int)),(q4.2.2.2:(List (List Int))))) fun q3=>
   some ((q3.1:Int),(q3.2.1:Int),(q3.2.2.1:(List Int)),(q3.2.2.2:(List (List Int))))) fun q2=>
  some ((q2.1:Int),(q2.2.1:Int),(q2.2.2.1:(List Int)),(q2.2.2.2:(List (List Int))))
 else
  some ((x9.2.1:Int),(x9.2.2:Int),(x7.1.Owner:(List Int)),(x7.1.Next:(List (List Int))))) fun q1=>
 some (((⟨q1.2.2.1,q1.2.2.2⟩:Arena):Arena),(q1.1:Int),(q1.2.1:Int))
def s_l4Draw_b0 (p0:l1Cur) (x10:Int×Int×Int) (v5:Int) (s1:Int×Int×(List Int)):Option ((Parity×Int×Int)⊕((Int×Int×(List Int))⊕(Int×Int×(List Int)))):=
 Option.bind (s_l1Below (⟨p0.b,s1.1,s1.2.1⟩:l1Cur) (IntKind.i64.wrap (3+x10.1))) fun x24=>
 Option.bind (appS 8 s1.2.2 ([x24.1]:List Int)) fun x26=>
 some (.inr (.inr ((x24.2.1:Int),(x24.2.2:Int),(x26:(List Int)))))
def s_l4Draw (p0:l1Cur):Option (Parity×Int×Int):=
 Option.bind (s_l1Draw p0) fun x7=>
 Option.bind (s_l1Below (⟨p0.b,x7.2.1,x7.2.2⟩:l1Cur) 4) fun x10=>
 Option.bind (cntM (s_l4Draw_b0 p0 x10) x7.1.Owner.length 0 ((x10.2.1:Int),(x10.2.2:Int),(([]:List Int):(List Int)))) fun q2=>
 aft (fun r=>some r) (fun s3=>
  some (((⟨x7.1,s3.2.2⟩:Parity):Parity),(s3.1:Int),(s3.2.1:Int))) q2
def s_l4DrawAny (p0:l1Cur):Option (Parity×Int×Int):=
 Option.bind (s_l4Draw p0) fun x5=>
 Option.bind (s_l1Once (⟨p0.b,x5.2.1,x5.2.2⟩:l1Cur) 8) fun x7=>
 Option.bind (bif x7.1 then
  Option.bind (s_l1Below (⟨p0.b,x7.2.1,x7.2.2⟩:l1Cur) 3) fun x9=>
  Option.bind (bif (x9.1==0) then
   Option.bind (s_l1Num (⟨p0.b,x9.2.1,x9.2.2⟩:l1Cur) 40) fun x15=>
   Option.bind (idx x5.1.Prio 0) fun x16=>
   Option.bind (setI x5.1.Prio 0 x15.1) fun y40=>
   some ((x15.2.1:Int),(x15.2.2:Int),(x5.1.Arena.Owner:(List Int)),(x5.1.Arena.Next:(List (List Int))),(y40:(List Int)))
  else
   Option.bind (bif (x9.1==1) then
    Option.bind (appS 8 x5.1.Prio ([1]:List Int)) fun x22=>
    some ((x9.2.1:Int),(x9.2.2:Int),(x5.1.Arena.Owner:(List Int)),(x5.1.Arena.Next:(List (List Int))),(x22:(List Int)))
   else
    Option.bind (bif (x9.1==2) then
     Option.bind (s_l1DrawAny (⟨p0.b,x9.2.1,x9.2.2⟩:l1Cur)) fun x27=>
     some ((x27.2.1:Int),(x27.2.2:Int),(x27.1.Owner:(List Int)),(x27.1.Next:(List (List Int))))
    else
     some ((x9.2.1:Int),(x9.2.2:Int),(x5.1.Arena.Owner:(List Int)),(x5.1.Arena.Next:(List (List Int))))) fun q4=>
    some ((q4.1:Int),(q4.2.1:Int),(q4.2.2.1:(List Int)),(q4.2.2.2:(List (List Int))),(x5.1.Prio:(List Int)))) fun q3=>
   some ((q3.1:Int),(q3.2.1:Int),(q3.2.2.1:(List Int)),(q3.2.2.2.1:(List (List Int))),(q3.2.2.2.2:(List Int)))) fun q2=>
  some ((q2.1:Int),(q2.2.1:Int),(q2.2.2.1:(List Int)),(q2.2.2.2.1:(List (List Int))),(q2.2.2.2.2:(List Int)))
 else
  some ((x7.2.1:Int),(x7.2.2:Int),(x5.1.Arena.Owner:(List Int)),(x5.1.Arena.Next:(List (List Int))),(x5.1.Prio:(List Int)))) fun q1=>
 some (((⟨(⟨q1.2.2.1,q1.2.2.2.1⟩:Arena),q1.2.2.2.2⟩:Parity):Parity),(q1.1:Int),(q1.2.1:Int))
def s_l32Draw (p0:l1Cur) (p1:Parity):Option (Edit×Int×Int):=
 Option.bind (s_l1Below p0 4) fun x11=>
 Option.bind (s_l1Below (⟨p0.b,x11.2.1,x11.2.2⟩:l1Cur) (p1.Prio.length:Int)) fun x15=>
 Option.bind (bif ((IntKind.i64.wrap (1+x11.1))==1) then
  Option.bind (s_l1Below (⟨p0.b,x15.2.1,x15.2.2⟩:l1Cur) 6) fun x22=>
  some ((x22.2.1:Int),(x22.2.2:Int),(x22.1:Int))
 else
  Option.bind (bif ((IntKind.i64.wrap (1+x11.1))==2) then
   Option.bind (s_l1Below (⟨p0.b,x15.2.1,x15.2.2⟩:l1Cur) 2) fun x27=>
   some ((x27.2.1:Int),(x27.2.2:Int),(x27.1:Int))
  else
   Option.bind (bif ((IntKind.i64.wrap (1+x11.1))==3) then
    Option.bind (s_l1Below (⟨p0.b,x15.2.1,x15.2.2⟩:l1Cur) (p1.Prio.length:Int)) fun x33=>
    some ((x33.2.1:Int),(x33.2.2:Int),(x33.1:Int))
   else
    Option.bind (bif ((IntKind.i64.wrap (1+x11.1))==4) then
     Option.bind (s_l1Below (⟨p0.b,x15.2.1,x15.2.2⟩:l1Cur) (p1.Prio.length:Int)) fun x39=>
     Option.bind (bif decide (x15.1<(p1.Arena.Next.length:Int)) then
     Option.bind (idx p1.Arena.Next x15.1) fun x54=>
     some (decide (0<(x54.length:Int)))
     else
     some false) fun p58=>
     Option.bind (bif p58 then
      Option.bind (idx p1.Arena.Next x15.1) fun x64=>
      Option.bind (idx p1.Arena.Next x15.1) fun x72=>
      Option.bind (s_l1Below (⟨p0.b,x39.2.1,x39.2.2⟩:l1Cur) (x72.length:Int)) fun x75=>
      Option.bind (idx x64 x75.1) fun x76=>
      some ((x75.2.1:Int),(x75.2.2:Int),(x76:Int))
     else
      some ((x39.2.1:Int),(x39.2.2:Int),(x39.1:Int))) fun q5=>
     some ((q5.1:Int),(q5.2.1:Int),(q5.2.2:Int))
    else
     some ((x15.2.1:Int),(x15.2.2:Int),(0:Int))) fun q4=>
    some ((q4.1:Int),(q4.2.1:Int),(q4.2.2:Int))) fun q3=>
   some ((q3.1:Int),(q3.2.1:Int),(q3.2.2:Int))) fun q2=>
  some ((q2.1:Int),(q2.2.1:Int),(q2.2.2:Int))) fun q1=>
 Option.bind (s_l1Once (⟨p0.b,q1.1,q1.2.1⟩:l1Cur) 10) fun x80=>
 Option.bind (bif x80.1 then
  Option.bind (s_l1Below (⟨p0.b,x80.2.1,x80.2.2⟩:l1Cur) 3) fun x82=>
  Option.bind (bif (x82.1==0) then
   Option.bind (s_l1From (⟨p0.b,x82.2.1,x82.2.2⟩:l1Cur) 0 5) fun x86=>
   some ((x86.2.1:Int),(x86.2.2:Int),(x86.1:Int),(x15.1:Int),(q1.2.2:Int))
  else
   Option.bind (bif (x82.1==1) then
    Option.bind (s_l1Num (⟨p0.b,x82.2.1,x82.2.2⟩:l1Cur) (p1.Prio.length:Int)) fun x92=>
    some ((x92.2.1:Int),(x92.2.2:Int),(x92.1:Int),(q1.2.2:Int))
   else
    Option.bind (bif (x82.1==2) then
     Option.bind (s_l1Num (⟨p0.b,x82.2.1,x82.2.2⟩:l1Cur) 40) fun x97=>
     some ((x97.2.1:Int),(x97.2.2:Int),(x97.1:Int))
    else
     some ((x82.2.1:Int),(x82.2.2:Int),(q1.2.2:Int))) fun q9=>
    some ((q9.1:Int),(q9.2.1:Int),(x15.1:Int),(q9.2.2:Int))) fun q8=>
   some ((q8.1:Int),(q8.2.1:Int),((IntKind.i64.wrap (1+x11.1)):Int),(q8.2.2.1:Int),(q8.2.2.2:Int))) fun q7=>
  some ((q7.1:Int),(q7.2.1:Int),(q7.2.2.1:Int),(q7.2.2.2.1:Int),(q7.2.2.2.2:Int))
 else
  some ((x80.2.1:Int),(x80.2.2:Int),((IntKind.i64.wrap (1+x11.1)):Int),(x15.1:Int),(q1.2.2:Int))) fun q6=>
 some (((⟨q6.2.2.1,q6.2.2.2.1,q6.2.2.2.2⟩:Edit):Edit),(q6.1:Int),(q6.2.1:Int))
def s_l32DrawPair (p0:l1Cur):Option (Parity×Edit×Int×Int):=
 Option.bind (s_l4DrawAny p0) fun x6=>
 Option.bind (s_l32Draw (⟨p0.b,x6.2.1,x6.2.2⟩:l1Cur) x6.1) fun x10=>
 some ((x6.1:Parity),(x10.1:Edit),(x10.2.1:Int),(x10.2.2:Int))
def s_DrawEdited (p0:(List Int)):Option (Parity×Edit):=
 Option.bind (s_l1New p0) fun x6=>
 Option.bind (s_l32DrawPair x6) fun x8=>
 some ((x8.1:Parity),(x8.2.1:Edit))
def i_isSet_b0 (p0:(List Int)) (p1:Int) (v9:Int) (s1:Unit):Option (Bool⊕((Unit)⊕(Unit))):=
 Option.bind (idx p0 v9) fun x12=>
 Option.bind (bif decide (x12<0) then
 some true
 else
 some (decide (p1≤x12))) fun p20=>
 Option.bind (bif p20 then
 some true
 else
 Option.bind (bif decide (0<v9) then
 Option.bind (idx p0 (IntKind.i64.wrap (v9-1))) fun x29=>
 some (decide (x12≤x29))
 else
 some false) fun p32=>
 some p32) fun p33=>
 bif p33 then
  some (.inl (false:Bool))
 else
  some (.inr (.inr ()))
def i_isSet (p0:(List Int)) (p1:Int):Option (Bool):=
 Option.bind (cntM (i_isSet_b0 p0 p1) p0.length 0 ()) fun q2=>
 aft (fun r=>some r) (fun s3=>
  some (true:Bool)) q2
def i_ArenaOk_b0 (p0:Arena) (v25:Int) (s1:Unit):Option (Bool⊕((Unit)⊕(Unit))):=
 Option.bind (idx p0.Next v25) fun x28=>
 Option.bind (idx p0.Owner v25) fun x33=>
 Option.bind (bif decide (x33<0) then
 some true
 else
 Option.bind (idx p0.Owner v25) fun x40=>
 some (decide (1<x40))) fun p43=>
 Option.bind (bif p43 then
 some true
 else
 some (decide ((x28.length:Int)<1))) fun p48=>
 Option.bind (bif p48 then
 some true
 else
 some (decide (16<(x28.length:Int)))) fun p53=>
 Option.bind (bif p53 then
 some true
 else
 Option.bind (i_isSet x28 (p0.Owner.length:Int)) fun x57=>
 some (!x57)) fun p59=>
 bif p59 then
  some (.inl (false:Bool))
 else
  some (.inr (.inr ()))
def i_ArenaOk (p0:Arena):Option (Bool):=
 Option.bind (bif decide ((p0.Owner.length:Int)<1) then
 some true
 else
 some (decide (256<(p0.Owner.length:Int)))) fun p14=>
 Option.bind (bif p14 then
 some true
 else
 some ((p0.Next.length:Int) !=(p0.Owner.length:Int))) fun p21=>
 bif p21 then
  some (false:Bool)
 else
  Option.bind (cntM (i_ArenaOk_b0 p0) p0.Next.length 0 ()) fun q2=>
  aft (fun r=>some r) (fun s3=>
   some (true:Bool)) q2
def i_ParityOk_b0 (p0:Parity) (v22:Int) (s1:Unit):Option (Bool⊕((Unit)⊕(Unit))):=
 Option.bind (idx p0.Prio v22) fun x24=>
 Option.bind (bif decide (x24<0) then
 some true
 else
 some (decide (40<x24))) fun p31=>
 bif p31 then
  some (.inl (false:Bool))
 else
  some (.inr (.inr ()))
def i_ParityOk (p0:Parity):Option (Bool):=
 Option.bind (i_ArenaOk p0.Arena) fun x7=>
 Option.bind (bif (!x7) then
 some true
 else
 some ((p0.Prio.length:Int) !=(p0.Arena.Owner.length:Int))) fun p18=>
 bif p18 then
  some (false:Bool)
 else
  Option.bind (cntM (i_ParityOk_b0 p0) p0.Prio.length 0 ()) fun q2=>
  aft (fun r=>some r) (fun s3=>
   some (true:Bool)) q2
def i_size (p0:Arena):Option (Int):=
 some ((p0.Owner.length:Int):Int)
def i_hasVertex (p0:Arena) (p1:Int):Option (Bool):=
 Option.bind (bif decide (0≤p1) then
 Option.bind (i_size p0) fun x10=>
 some (decide (p1<x10))
 else
 some false) fun p12=>
 some (p12:Bool)
def i_isPlayer (p0:Int):Option (Bool):=
 Option.bind (bif (p0==0) then
 some true
 else
 some (p0==1)) fun p8=>
 some (p8:Bool)
def slices_Index_I_int64_b0 (p0:(List Int)) (p1:Int) (v8:Int) (s1:Unit):Option (Int⊕((Unit)⊕(Unit))):=
 Option.bind (idx p0 v8) fun x14=>
 bif (p1==x14) then
  some (.inl (v8:Int))
 else
  some (.inr (.inr ()))
def slices_Index_I_int64 (p0:(List Int)) (p1:Int):Option (Int):=
 Option.bind (cntM (slices_Index_I_int64_b0 p0 p1) p0.length 0 ()) fun q2=>
 aft (fun r=>some r) (fun s3=>
  some ((-1):Int)) q2
def slices_Contains_I_int64 (p0:(List Int)) (p1:Int):Option (Bool):=
 Option.bind (slices_Index_I_int64 p0 p1) fun x7=>
 some (decide (0≤x7):Bool)
def i_isEdit (p0:Parity) (p1:Edit):Option (Bool):=
 Option.bind (i_hasVertex p0.Arena p1.V) fun x10=>
 bif (!x10) then
  some (false:Bool)
 else
  Option.bind (idx p0.Arena.Next p1.V) fun x17=>
  bif (p1.Kind==1) then
   Option.bind (bif decide (0≤p1.N) then
   some (decide (p1.N≤40))
   else
   some false) fun p30=>
   some (p30:Bool)
  else
   bif (p1.Kind==2) then
    Option.bind (i_isPlayer p1.N) fun x35=>
    some (x35:Bool)
   else
    bif (p1.Kind==3) then
     Option.bind (i_hasVertex p0.Arena p1.N) fun x42=>
     Option.bind (bif x42 then
     Option.bind (slices_Contains_I_int64 x17 p1.N) fun x47=>
     some (!x47)
     else
     some false) fun p49=>
     Option.bind (bif p49 then
     some (decide ((x17.length:Int)<16))
     else
     some false) fun p54=>
     some (p54:Bool)
    else
     bif (p1.Kind==4) then
      Option.bind (slices_Contains_I_int64 x17 p1.N) fun x60=>
      Option.bind (bif x60 then
      some (decide (1<(x17.length:Int)))
      else
      some false) fun p65=>
      some (p65:Bool)
     else
      some (false:Bool)
def i_copyLists_b0 (p0:(List (List Int))) (v9:Int) (s1:(List (List Int))):Option ((List (List Int))⊕(((List (List Int)))⊕((List (List Int))))):=
 Option.bind (idx p0 v9) fun x11=>
 Option.bind (appS 8 ([]:List Int) x11) fun x16=>
 Option.bind (appS 24 s1 ([x16]:List (List Int))) fun x18=>
 some (.inr (.inr (x18:(List (List Int)))))
def i_copyLists (p0:(List (List Int))):Option ((List (List Int))):=
 Option.bind (cntM (i_copyLists_b0 p0) p0.length 0 (([]:List (List Int)):(List (List Int)))) fun q2=>
 aft (fun r=>some r) (fun s3=>
  some (s3:(List (List Int)))) q2
def i_copyArena (p0:Arena):Option (Arena):=
 Option.bind (appS 8 ([]:List Int) p0.Owner) fun x6=>
 Option.bind (i_copyLists p0.Next) fun x9=>
 some ((⟨x6,x9⟩:Arena):Arena)
def i_copyParity (p0:Parity):Option (Parity):=
 Option.bind (i_copyArena p0.Arena) fun x5=>
 Option.bind (appS 8 ([]:List Int) p0.Prio) fun x9=>
 some ((⟨(⟨x5.Owner,x5.Next⟩:Arena),x9⟩:Parity):Parity)
def cmp_isNaN_int64 (p0:Int):Option (Bool):=
 some ((p0 !=p0):Bool)
def cmp_Less_int64 (p0:Int) (p1:Int):Option (Bool):=
 Option.bind (cmp_isNaN_int64 p0) fun x6=>
 Option.bind (bif x6 then
 Option.bind (cmp_isNaN_int64 p1) fun x9=>
 some (!x9)
 else
 some false) fun p11=>
 Option.bind (bif p11 then
 some true
 else
 some (decide (p0<p1))) fun p16=>
 some (p16:Bool)
def slices_isNaN_int64 (p0:Int):Option (Bool):=
 some ((p0 !=p0):Bool)
def slices_BinarySearch_I_int64_b0 (p0:(List Int)) (p1:Int) (s1:Int×Int):Option ((Int×Bool)⊕((Int×Int)⊕(Int×Int))):=
 bif decide (s1.1<s1.2) then
  Option.bind (idx p0 (IntKind.i64.wrap (Int.fdiv (IntKind.u64.wrap (IntKind.i64.wrap (s1.1+s1.2))) (2 ^ (min (Int.toNat 1) (IntKind.bits IntKind.u64)))))) fun x24=>
  Option.bind (cmp_Less_int64 x24 p1) fun x27=>
  Option.bind (bif x27 then
   some (((IntKind.i64.wrap ((IntKind.i64.wrap (Int.fdiv (IntKind.u64.wrap (IntKind.i64.wrap (s1.1+s1.2))) (2 ^ (min (Int.toNat 1) (IntKind.bits IntKind.u64)))))+1)):Int),(s1.2:Int))
  else
   some ((s1.1:Int),((IntKind.i64.wrap (Int.fdiv (IntKind.u64.wrap (IntKind.i64.wrap (s1.1+s1.2))) (2 ^ (min (Int.toNat 1) (IntKind.bits IntKind.u64))))):Int))) fun q4=>
  some (.inr (.inr ((q4.1:Int),(q4.2:Int))))
 else
  some (.inr (.inl ((s1.1:Int),(s1.2:Int))))
def slices_BinarySearch_I_int64 (p0:(List Int)) (p1:Int):Option (Int×Bool):=
 Option.bind (whileM (slices_BinarySearch_I_int64_b0 p0 p1) (2 ^ 64) ((0:Int),((p0.length:Int):Int))) fun q2=>
 aft (fun r=>some r) (fun s3=>
  Option.bind (bif decide (s3.1<(p0.length:Int)) then
  Option.bind (idx p0 s3.1) fun x38=>
  Option.bind (bif (x38==p1) then
  some true
  else
  Option.bind (idx p0 s3.1) fun x45=>
  Option.bind (slices_isNaN_int64 x45) fun x47=>
  Option.bind (bif x47 then
  Option.bind (slices_isNaN_int64 p1) fun x50=>
  some x50
  else
  some false) fun p51=>
  some p51) fun p52=>
  some p52
  else
  some false) fun p53=>
  some ((s3.1:Int),(p53:Bool))) q2
def i_lessOf_b0 (p0:(List Int)) (p1:(List Int)) (v13:Int) (s1:(List Int)):Option ((List Int)⊕(((List Int))⊕((List Int)))):=
 Option.bind (idx p0 v13) fun x15=>
 Option.bind (slices_BinarySearch_I_int64 p1 x15) fun x20=>
 Option.bind (bif (!x20.2) then
  Option.bind (appS 8 s1 ([x15]:List Int)) fun x28=>
  some (x28:(List Int))
 else
  some (s1:(List Int))) fun q4=>
 some (.inr (.inr (q4:(List Int))))
def i_lessOf (p0:(List Int)) (p1:(List Int)):Option ((List Int)):=
 Option.bind (cntM (i_lessOf_b0 p0 p1) p0.length 0 (([]:List Int):(List Int))) fun q2=>
 aft (fun r=>some r) (fun s3=>
  some (s3:(List Int))) q2
def slices_Sort_I_int64 (p0:(List Int)):Option (List Int):=
 if 0<p0.length∧p0.length<4611686018427387904 then some (p0.mergeSort fun x y=>decide (x≤y)) else if p0.length=0 then some p0 else none
def i_bothOf (p0:(List Int)) (p1:(List Int)):Option ((List Int)):=
 Option.bind (appS 8 ([]:List Int) p0) fun x8=>
 Option.bind (i_lessOf p1 p0) fun x11=>
 Option.bind (appS 8 x8 x11) fun x12=>
 Option.bind (slices_Sort_I_int64 x12) fun x14=>
 some (x14:(List Int))
def i_edited (p0:Parity) (p1:Edit):Option (Parity):=
 Option.bind (i_copyParity p0) fun x7=>
 Option.bind (bif (p1.Kind==1) then
  Option.bind (idx x7.Prio p1.V) fun x35=>
  Option.bind (setI x7.Prio p1.V p1.N) fun y96=>
  some ((x7.Arena.Owner:(List Int)),(x7.Arena.Next:(List (List Int))),(y96:(List Int)))
 else
  Option.bind (bif (p1.Kind==2) then
   Option.bind (idx x7.Arena.Owner p1.V) fun x45=>
   Option.bind (setI x7.Arena.Owner p1.V p1.N) fun y97=>
   some ((y97:(List Int)),(x7.Arena.Next:(List (List Int))))
  else
   Option.bind (bif (p1.Kind==3) then
    Option.bind (idx x7.Arena.Next p1.V) fun x58=>
    Option.bind (i_bothOf x58 ([p1.N]:List Int)) fun x63=>
    Option.bind (idx x7.Arena.Next p1.V) fun x64=>
    Option.bind (setI x7.Arena.Next p1.V (x63:(List Int))) fun y111=>
    some (y111:(List (List Int)))
   else
    Option.bind (idx x7.Arena.Next p1.V) fun x20=>
    Option.bind (i_lessOf x20 ([p1.N]:List Int)) fun x25=>
    Option.bind (idx x7.Arena.Next p1.V) fun x26=>
    Option.bind (setI x7.Arena.Next p1.V (x25:(List Int))) fun y114=>
    some (y114:(List (List Int)))) fun q3=>
   some ((x7.Arena.Owner:(List Int)),(q3:(List (List Int))))) fun q2=>
  some ((q2.1:(List Int)),(q2.2:(List (List Int))),(x7.Prio:(List Int)))) fun q1=>
 some ((⟨(⟨q1.1,q1.2.1⟩:Arena),q1.2.2⟩:Parity):Parity)
def i_Edited (p0:Parity) (p1:Edit):Option (Parity×Bool):=
 Option.bind (i_ParityOk p0) fun x7=>
 Option.bind (bif (!x7) then
 some true
 else
 Option.bind (i_isEdit p0 p1) fun x12=>
 some (!x12)) fun p14=>
 bif p14 then
  some (((⟨(⟨([]:List Int),([]:List (List Int))⟩:Arena),([]:List Int)⟩:Parity):Parity),(false:Bool))
 else
  Option.bind (i_edited p0 p1) fun x18=>
  some ((x18:Parity),(true:Bool))
def s_l1In (p0:Int) (p1:Int) (p2:Int):Option (Bool):=
 Option.bind (bif decide (p1≤p0) then
 some (decide (p0≤p2))
 else
 some false) fun p14=>
 some (p14:Bool)
def s_l1Rises_b0 (p0:(List Int)) (p1:Int) (v5:Int) (s1:Unit):Option (Bool⊕((Unit)⊕(Unit))):=
 Option.bind (idx p0 v5) fun x14=>
 Option.bind (s_l1In x14 0 (IntKind.i64.wrap (p1-1))) fun x18=>
 Option.bind (bif (!x18) then
 some true
 else
 Option.bind (bif decide (0<v5) then
 Option.bind (idx p0 v5) fun x26=>
 Option.bind (idx p0 (IntKind.i64.wrap (v5-1))) fun x31=>
 some (decide (x26≤x31))
 else
 some false) fun p34=>
 some p34) fun p35=>
 bif p35 then
  some (.inl (false:Bool))
 else
  some (.inr (.inr ()))
def s_l1Rises (p0:(List Int)) (p1:Int):Option (Bool):=
 Option.bind (cntM (s_l1Rises_b0 p0 p1) p0.length 0 ()) fun q2=>
 aft (fun r=>some r) (fun s3=>
  some (true:Bool)) q2
def s_l1Set (p0:(List Int)) (p1:Int):Option (Bool):=
 Option.bind (bif decide ((p0.length:Int)≤p1) then
 Option.bind (s_l1Rises p0 p1) fun x12=>
 some x12
 else
 some false) fun p13=>
 some (p13:Bool)
def s_ArenaOk_b0 (p0:Arena) (v4:Int) (s1:Unit):Option (Bool⊕((Unit)⊕(Unit))):=
 Option.bind (idx p0.Owner v4) fun x30=>
 Option.bind (s_l1In x30 0 1) fun x32=>
 Option.bind (bif (!x32) then
 some true
 else
 Option.bind (idx p0.Next v4) fun x38=>
 some (decide ((x38.length:Int)<1))) fun p42=>
 Option.bind (bif p42 then
 some true
 else
 Option.bind (idx p0.Next v4) fun x47=>
 some (decide (16<(x47.length:Int)))) fun p51=>
 Option.bind (bif p51 then
 some true
 else
 Option.bind (idx p0.Next v4) fun x56=>
 Option.bind (s_l1Set x56 (p0.Owner.length:Int)) fun x59=>
 some (!x59)) fun p61=>
 bif p61 then
  some (.inl (false:Bool))
 else
  some (.inr (.inr ()))
def s_ArenaOk (p0:Arena):Option (Bool):=
 Option.bind (s_l1In (p0.Owner.length:Int) 1 256) fun x9=>
 Option.bind (bif (!x9) then
 some true
 else
 some ((p0.Next.length:Int) !=(p0.Owner.length:Int))) fun p19=>
 bif p19 then
  some (false:Bool)
 else
  Option.bind (cntM (s_ArenaOk_b0 p0) p0.Owner.length 0 ()) fun q2=>
  aft (fun r=>some r) (fun s3=>
   some (true:Bool)) q2
def s_ParityOk_b0 (p0:Parity) (v3:Int) (s1:Unit):Option (Bool⊕((Unit)⊕(Unit))):=
 Option.bind (idx p0.Prio v3) fun x28=>
 Option.bind (s_l1In x28 0 40) fun x30=>
 bif (!x30) then
  some (.inl (false:Bool))
 else
  some (.inr (.inr ()))
def s_ParityOk (p0:Parity):Option (Bool):=
 Option.bind (s_ArenaOk p0.Arena) fun x6=>
 Option.bind (bif (!x6) then
 some true
 else
 some ((p0.Prio.length:Int) !=(p0.Arena.Owner.length:Int))) fun p17=>
 bif p17 then
  some (false:Bool)
 else
  Option.bind (cntM (s_ParityOk_b0 p0) p0.Prio.length 0 ()) fun q2=>
  aft (fun r=>some r) (fun s3=>
   some (true:Bool)) q2
def s_l16Has_b0 (p0:(List Int)) (p1:Int) (v5:Int) (s1:Unit):Option (Bool⊕((Unit)⊕(Unit))):=
 Option.bind (idx p0 v5) fun x14=>
 bif (x14==p1) then
  some (.inl (true:Bool))
 else
  some (.inr (.inr ()))
def s_l16Has (p0:(List Int)) (p1:Int):Option (Bool):=
 Option.bind (cntM (s_l16Has_b0 p0 p1) p0.length 0 ()) fun q2=>
 aft (fun r=>some r) (fun s3=>
  some (false:Bool)) q2
def s_EditOk (p0:Parity) (p1:Edit):Option (Bool):=
 Option.bind (s_ParityOk p0) fun x11=>
 Option.bind (bif (!x11) then
 some true
 else
 Option.bind (s_l1In p1.V 0 (IntKind.i64.wrap ((p0.Prio.length:Int)-1))) fun x18=>
 some (!x18)) fun p20=>
 bif p20 then
  some (false:Bool)
 else
  Option.bind (idx p0.Arena.Next p1.V) fun x26=>
  bif (p1.Kind==1) then
   Option.bind (s_l1In p1.N 0 40) fun x34=>
   some (x34:Bool)
  else
   bif (p1.Kind==2) then
    Option.bind (s_l1In p1.N 0 1) fun x39=>
    some (x39:Bool)
   else
    bif (p1.Kind==3) then
     Option.bind (s_l1In p1.N 0 (IntKind.i64.wrap ((p0.Prio.length:Int)-1))) fun x46=>
     Option.bind (bif x46 then
     Option.bind (s_l16Has x26 p1.N) fun x51=>
     some (!x51)
     else
     some false) fun p53=>
     Option.bind (bif p53 then
     some (decide ((x26.length:Int)<16))
     else
     some false) fun p58=>
     some (p58:Bool)
    else
     bif (p1.Kind==4) then
      Option.bind (s_l16Has x26 p1.N) fun x64=>
      Option.bind (bif x64 then
      some (decide (1<(x26.length:Int)))
      else
      some false) fun p69=>
      some (p69:Bool)
     else
      some (false:Bool)
def s_l1CopyArena_b0 (p0:Arena) (v4:Int) (s1:(List (List Int))):Option (Arena⊕(((List (List Int)))⊕((List (List Int))))):=
 Option.bind (idx p0.Next v4) fun x21=>
 Option.bind (s_l1Copy x21) fun x23=>
 Option.bind (appS 24 s1 ([x23]:List (List Int))) fun x25=>
 some (.inr (.inr (x25:(List (List Int)))))
def s_l1CopyArena (p0:Arena):Option (Arena):=
 Option.bind (s_l1Copy p0.Owner) fun x7=>
 Option.bind (cntM (s_l1CopyArena_b0 p0) p0.Next.length 0 (([]:List (List Int)):(List (List Int)))) fun q2=>
 aft (fun r=>some r) (fun s3=>
  some ((⟨x7,s3⟩:Arena):Arena)) q2
def s_l4Copy (p0:Parity):Option (Parity):=
 Option.bind (s_l1CopyArena p0.Arena) fun x5=>
 Option.bind (s_l1Copy p0.Prio) fun x8=>
 some ((⟨x5,x8⟩:Parity):Parity)
def s_l32Do_b1 (p0:Parity) (p1:Edit) (s5:(List Int)×Int):Option (Parity⊕(((List Int)×Int)⊕((List Int)×Int))):=
 Option.bind (idx p0.Arena.Next p1.V) fun x58=>
 bif decide (s5.2<(x58.length:Int)) then
  Option.bind (idx p0.Arena.Next p1.V) fun x69=>
  Option.bind (idx x69 s5.2) fun x72=>
  Option.bind (bif (x72 !=p1.N) then
   Option.bind (idx p0.Arena.Next p1.V) fun x83=>
   Option.bind (idx x83 s5.2) fun x86=>
   Option.bind (appS 8 s5.1 ([x86]:List Int)) fun x89=>
   some (x89:(List Int))
  else
   some (s5.1:(List Int))) fun q8=>
  some (.inr (.inr ((q8:(List Int)),((IntKind.i64.wrap (s5.2+1)):Int))))
 else
  some (.inr (.inl ((s5.1:(List Int)),(s5.2:Int))))
def s_l32Do (p0:Parity) (p1:Edit):Option (Parity):=
 Option.bind (s_l4Copy p0) fun x9=>
 Option.bind (bif (p1.Kind==1) then
  Option.bind (idx x9.Prio p1.V) fun x20=>
  Option.bind (setI x9.Prio p1.V p1.N) fun y138=>
  some ((x9.Arena.Owner:(List Int)),(x9.Arena.Next:(List (List Int))),(y138:(List Int)))
 else
  Option.bind (bif (p1.Kind==2) then
   Option.bind (idx x9.Arena.Owner p1.V) fun x30=>
   Option.bind (setI x9.Arena.Owner p1.V p1.N) fun y139=>
   some ((y139:(List Int)),(x9.Arena.Next:(List (List Int))))
  else
   Option.bind (bif (p1.Kind==3) then
    Option.bind (idx x9.Arena.Next p1.V) fun x43=>
    Option.bind (s_l1Into x43 p1.N) fun x47=>
    Option.bind (idx x9.Arena.Next p1.V) fun x48=>
    Option.bind (setI x9.Arena.Next p1.V (x47:(List Int))) fun y141=>
    some (y141:(List (List Int)))
   else
    Option.bind (bif (p1.Kind==4) then
     Option.bind (whileM (s_l32Do_b1 p0 p1) (2 ^ 64) ((([]:List Int):(List Int)),(0:Int))) fun q6=>
     aft (fun r=>none) (fun s7=>
      Option.bind (idx x9.Arena.Next p1.V) fun x96=>
      Option.bind (setI x9.Arena.Next p1.V (s7.1:(List Int))) fun y144=>
      some (y144:(List (List Int)))) q6
    else
     some (x9.Arena.Next:(List (List Int)))) fun q4=>
    some (q4:(List (List Int)))) fun q3=>
   some ((x9.Arena.Owner:(List Int)),(q3:(List (List Int))))) fun q2=>
  some ((q2.1:(List Int)),(q2.2:(List (List Int))),(x9.Prio:(List Int)))) fun q1=>
 some ((⟨(⟨q1.1,q1.2.1⟩:Arena),q1.2.2⟩:Parity):Parity)
def s_Edited (p0:Parity) (p1:Edit):Option (Parity×Bool):=
 Option.bind (s_EditOk p0 p1) fun x8=>
 bif (!x8) then
  some (((⟨(⟨([]:List Int),([]:List (List Int))⟩:Arena),([]:List Int)⟩:Parity):Parity),(false:Bool))
 else
  Option.bind (s_l32Do p0 p1) fun x13=>
  some ((x13:Parity),(true:Bool))
def i_UndoneBy (p0:Parity) (p1:Edit):Option (Edit×Bool):=
 Option.bind (i_ParityOk p0) fun x7=>
 Option.bind (bif (!x7) then
 some true
 else
 Option.bind (i_isEdit p0 p1) fun x12=>
 some (!x12)) fun p14=>
 bif p14 then
  some (((⟨0,0,0⟩:Edit):Edit),(false:Bool))
 else
  Option.bind (bif (p1.Kind==1) then
   Option.bind (idx p0.Prio p1.V) fun x25=>
   some ((p1.Kind:Int),(x25:Int))
  else
   Option.bind (bif (p1.Kind==2) then
    Option.bind (idx p0.Arena.Owner p1.V) fun x35=>
    some ((p1.Kind:Int),(x35:Int))
   else
    Option.bind (bif (p1.Kind==3) then
     some (4:Int)
    else
     some (3:Int)) fun q3=>
    some ((q3:Int),(p1.N:Int))) fun q2=>
   some ((q2.1:Int),(q2.2:Int))) fun q1=>
  some (((⟨q1.1,p1.V,q1.2⟩:Edit):Edit),(true:Bool))
def s_l1Same_b0 (p0:(List Int)) (p1:(List Int)) (v5:Int) (s1:Unit):Option (Bool⊕((Unit)⊕(Unit))):=
 Option.bind (idx p0 v5) fun x19=>
 Option.bind (idx p1 v5) fun x23=>
 bif (x19 !=x23) then
  some (.inl (false:Bool))
 else
  some (.inr (.inr ()))
def s_l1Same (p0:(List Int)) (p1:(List Int)):Option (Bool):=
 bif ((p0.length:Int) !=(p1.length:Int)) then
  some (false:Bool)
 else
  Option.bind (cntM (s_l1Same_b0 p0 p1) p0.length 0 ()) fun q2=>
  aft (fun r=>some r) (fun s3=>
   some (true:Bool)) q2
def s_SameArena_b0 (p0:Arena) (p1:Arena) (v5:Int) (s1:Unit):Option (Bool⊕((Unit)⊕(Unit))):=
 Option.bind (idx p0.Next v5) fun x32=>
 Option.bind (idx p1.Next v5) fun x37=>
 Option.bind (s_l1Same x32 x37) fun x39=>
 bif (!x39) then
  some (.inl (false:Bool))
 else
  some (.inr (.inr ()))
def s_SameArena (p0:Arena) (p1:Arena):Option (Bool):=
 Option.bind (s_ArenaOk p0) fun x7=>
 Option.bind (bif (!x7) then
 some true
 else
 Option.bind (s_ArenaOk p1) fun x11=>
 some (!x11)) fun p13=>
 Option.bind (bif p13 then
 some true
 else
 Option.bind (s_l1Same p0.Owner p1.Owner) fun x19=>
 some (!x19)) fun p21=>
 bif p21 then
  some (false:Bool)
 else
  Option.bind (cntM (s_SameArena_b0 p0 p1) p0.Next.length 0 ()) fun q2=>
  aft (fun r=>some r) (fun s3=>
   some (true:Bool)) q2
def s_SameParity (p0:Parity) (p1:Parity):Option (Bool):=
 Option.bind (s_ParityOk p0) fun x6=>
 Option.bind (bif x6 then
 Option.bind (s_ParityOk p1) fun x9=>
 some x9
 else
 some false) fun p10=>
 Option.bind (bif p10 then
 Option.bind (s_SameArena p0.Arena p1.Arena) fun x16=>
 some x16
 else
 some false) fun p17=>
 Option.bind (bif p17 then
 Option.bind (s_l1Same p0.Prio p1.Prio) fun x23=>
 some x23
 else
 some false) fun p24=>
 some (p24:Bool)
def s_l7None_b0  (v4:Int) (s1:(List Int)):Option ((List Int)⊕(((List Int))⊕((List Int)))):=
 Option.bind (appS 8 s1 ([(-1)]:List Int)) fun x13=>
 some (.inr (.inr (x13:(List Int))))
def s_l7None (p0:Int):Option ((List Int)):=
 Option.bind (rng p0) fun _=>
 Option.bind (cntM s_l7None_b0 (Int.toNat (p0-0)) 0 (([]:List Int):(List Int))) fun q2=>
 aft (fun r=>some r) (fun s3=>
  some (s3:(List Int))) q2
def s_l7HasIn_b0 (p0:(List Int)) (p1:Int) (v5:Int) (s1:Unit):Option (Bool⊕((Unit)⊕(Unit))):=
 Option.bind (idx p0 v5) fun x14=>
 bif (x14==p1) then
  some (.inl (true:Bool))
 else
  some (.inr (.inr ()))
def s_l7HasIn (p0:(List Int)) (p1:Int):Option (Bool):=
 Option.bind (cntM (s_l7HasIn_b0 p0 p1) p0.length 0 ()) fun q2=>
 aft (fun r=>some r) (fun s3=>
  some (false:Bool)) q2
def s_l7Picks_b0 (p0:Parity) (p1:(List Int)) (v5:Int) (s1:Unit):Option (Bool⊕((Unit)⊕(Unit))):=
 Option.bind (idx p1 v5) fun x20=>
 Option.bind (bif (x20 !=(-1)) then
 Option.bind (idx p1 v5) fun x32=>
 Option.bind (idx p0.Arena.Next v5) fun x28=>
 Option.bind (s_l7HasIn x28 x32) fun x34=>
 some (!x34)
 else
 some false) fun p36=>
 bif p36 then
  some (.inl (false:Bool))
 else
  some (.inr (.inr ()))
def s_l7Picks (p0:Parity) (p1:(List Int)):Option (Bool):=
 bif ((p1.length:Int) !=(p0.Prio.length:Int)) then
  some (false:Bool)
 else
  Option.bind (cntM (s_l7Picks_b0 p0 p1) p1.length 0 ()) fun q2=>
  aft (fun r=>some r) (fun s3=>
   some (true:Bool)) q2
def s_OnlyBy_b0 (p0:Parity) (p1:(List Int)) (v7:Int) (s1:(List (List Int))):Option ((Parity×Bool)⊕(((List (List Int)))⊕((List (List Int))))):=
 Option.bind (idx p0.Arena.Next v7) fun x38=>
 Option.bind (s_l1Copy x38) fun x40=>
 Option.bind (idx p1 v7) fun x43=>
 Option.bind (bif decide (0≤x43) then
  Option.bind (idx p1 v7) fun x48=>
  some (([x48]:List Int):(List Int))
 else
  some (x40:(List Int))) fun q4=>
 Option.bind (appS 24 s1 ([q4]:List (List Int))) fun x56=>
 some (.inr (.inr (x56:(List (List Int)))))
def s_OnlyBy (p0:Parity) (p1:(List Int)):Option (Parity×Bool):=
 Option.bind (s_ParityOk p0) fun x10=>
 Option.bind (bif (!x10) then
 some true
 else
 Option.bind (s_l7Picks p0 p1) fun x15=>
 some (!x15)) fun p17=>
 bif p17 then
  some (((⟨(⟨([]:List Int),([]:List (List Int))⟩:Arena),([]:List Int)⟩:Parity):Parity),(false:Bool))
 else
  Option.bind (s_l1Copy p0.Arena.Owner) fun x22=>
  Option.bind (s_l1Copy p0.Prio) fun x26=>
  Option.bind (cntM (s_OnlyBy_b0 p0 p1) p1.length 0 (((⟨(⟨x22,([]:List (List Int))⟩:Arena),x26⟩:Parity).Arena).Next:(List (List Int)))) fun q2=>
  aft (fun r=>some r) (fun s3=>
   some (((⟨(⟨((⟨(⟨x22,([]:List (List Int))⟩:Arena),x26⟩:Parity).Arena).Owner,s3⟩:Arena),(⟨(⟨x22,([]:List (List Int))⟩:Arena),x26⟩:Parity).Prio⟩:Parity):Parity),(true:Bool))) q2
def s_l7Of_b2 (p0:Parity) (v5:Int) (s4:Int×(List (List Int))):Option (l7Game⊕((Int×(List (List Int)))⊕(Int×(List (List Int))))):=
 Option.bind (idx p0.Arena.Next v5) fun x38=>
 bif decide (s4.1<(x38.length:Int)) then
  Option.bind (idx p0.Arena.Next v5) fun x48=>
  Option.bind (idx x48 s4.1) fun x51=>
  Option.bind (idx s4.2 x51) fun x59=>
  Option.bind (appS 8 x59 ([v5]:List Int)) fun x63=>
  Option.bind (idx s4.2 x51) fun x64=>
  Option.bind (setI s4.2 x51 (x63:(List Int))) fun y181=>
  some (.inr (.inr (((IntKind.i64.wrap (s4.1+1)):Int),(y181:(List (List Int))))))
 else
  some (.inr (.inl ((s4.1:Int),(s4.2:(List (List Int))))))
def s_l7Of_b0 (p0:Parity) (v5:Int) (s1:(List (List Int))×(List Int)):Option (l7Game⊕(((List (List Int))×(List Int))⊕((List (List Int))×(List Int)))):=
 Option.bind (idx s1.2 v5) fun x32=>
 Option.bind (setI s1.2 v5 (-1)) fun y179=>
 Option.bind (whileM (s_l7Of_b2 p0 v5) (2 ^ 64) ((0:Int),(s1.1:(List (List Int))))) fun q5=>
 aft (fun r=>some (.inl r)) (fun s6=>
  some (.inr (.inr ((s6.2:(List (List Int))),(y179:(List Int)))))) q5
def s_l7Of (p0:Parity):Option (l7Game):=
 Option.bind (mkS 24 (p0.Prio.length:Int) (([]:List Int):(List Int))) fun x20=>
 Option.bind (mkS 8 (p0.Prio.length:Int) (0:Int)) fun x22=>
 Option.bind (cntM (s_l7Of_b0 p0) p0.Prio.length 0 (((⟨p0.Arena.Owner,p0.Prio,p0.Arena.Next,x20,x22⟩:l7Game).prev:(List (List Int))),((⟨p0.Arena.Owner,p0.Prio,p0.Arena.Next,x20,x22⟩:l7Game).pick:(List Int)))) fun q2=>
 aft (fun r=>some r) (fun s3=>
  some ((⟨(⟨p0.Arena.Owner,p0.Prio,p0.Arena.Next,x20,x22⟩:l7Game).owner,(⟨p0.Arena.Owner,p0.Prio,p0.Arena.Next,x20,x22⟩:l7Game).prio,(⟨p0.Arena.Owner,p0.Prio,p0.Arena.Next,x20,x22⟩:l7Game).next,s3.1,s3.2⟩:l7Game):l7Game)) q2
def s_l7All_b0  (v4:Int) (s1:(List Bool)):Option ((List Bool)⊕(((List Bool))⊕((List Bool)))):=
 Option.bind (idx s1 v4) fun x14=>
 Option.bind (setI s1 v4 true) fun y184=>
 some (.inr (.inr (y184:(List Bool))))
def s_l7All (p0:Int):Option ((List Bool)):=
 Option.bind (mkS 1 p0 (false:Bool)) fun x6=>
 Option.bind (rng p0) fun _=>
 Option.bind (cntM s_l7All_b0 (Int.toNat (p0-0)) 0 (x6:(List Bool))) fun q2=>
 aft (fun r=>some r) (fun s3=>
  some (s3:(List Bool))) q2
def s_l1Max (p0:Int) (p1:Int):Option (Int):=
 bif decide (p1<p0) then
  some (p0:Int)
 else
  some (p1:Int)
def s_l7Top_b0 (p0:l7Game) (p1:(List Bool)) (v6:Int) (s1:Int):Option (Int⊕((Int)⊕(Int))):=
 Option.bind (idx p1 v6) fun x15=>
 Option.bind (bif x15 then
  Option.bind (idx p0.prio v6) fun x21=>
  Option.bind (s_l1Max s1 x21) fun x23=>
  some (x23:Int)
 else
  some (s1:Int)) fun q4=>
 some (.inr (.inr (q4:Int)))
def s_l7Top (p0:l7Game) (p1:(List Bool)):Option (Int):=
 Option.bind (cntM (s_l7Top_b0 p0 p1) p1.length 0 ((-1):Int)) fun q2=>
 aft (fun r=>some r) (fun s3=>
  some (s3:Int)) q2
def s_l7Edge (p0:l7Game) (p1:Int) (p2:Int):Option (Bool):=
 Option.bind (idx p0.pick p1) fun x10=>
 Option.bind (bif decide (x10<0) then
 some true
 else
 Option.bind (idx p0.pick p1) fun x17=>
 some (x17==p2)) fun p21=>
 some (p21:Bool)
def s_l7Degree_b0 (p0:l7Game) (p1:(List Bool)) (p2:Int) (s1:Int×Int):Option (Int⊕((Int×Int)⊕(Int×Int))):=
 Option.bind (idx p0.next p2) fun x14=>
 bif decide (s1.2<(x14.length:Int)) then
  Option.bind (idx p0.next p2) fun x23=>
  Option.bind (idx x23 s1.2) fun x26=>
  Option.bind (idx p1 x26) fun x30=>
  Option.bind (bif x30 then
  Option.bind (s_l7Edge p0 p2 x26) fun x36=>
  some x36
  else
  some false) fun p37=>
  Option.bind (bif p37 then
   some ((IntKind.i64.wrap (s1.1+1)):Int)
  else
   some (s1.1:Int)) fun q4=>
  some (.inr (.inr ((q4:Int),((IntKind.i64.wrap (s1.2+1)):Int))))
 else
  some (.inr (.inl ((s1.1:Int),(s1.2:Int))))
def s_l7Degree (p0:l7Game) (p1:(List Bool)) (p2:Int):Option (Int):=
 Option.bind (whileM (s_l7Degree_b0 p0 p1 p2) (2 ^ 64) ((0:Int),(0:Int))) fun q2=>
 aft (fun r=>some r) (fun s3=>
  some (s3.1:Int)) q2
def s_l7Attract_b0 (p0:l7Game) (p1:(List Bool)) (p3:(List Bool)) (v12:Int) (s1:(List Int)×(List Bool)×(List Int)):Option ((List Bool)⊕(((List Int)×(List Bool)×(List Int))⊕((List Int)×(List Bool)×(List Int)))):=
 Option.bind (idx p1 v12) fun x32=>
 Option.bind (bif x32 then
  Option.bind (s_l7Degree p0 p1 v12) fun x39=>
  Option.bind (idx s1.2.2 v12) fun x40=>
  Option.bind (setI s1.2.2 v12 x39) fun y197=>
  some (y197:(List Int))
 else
  some (s1.2.2:(List Int))) fun q4=>
 Option.bind (idx p1 v12) fun x43=>
 Option.bind (bif x43 then
 Option.bind (idx p3 v12) fun x48=>
 some x48
 else
 some false) fun p50=>
 Option.bind (bif p50 then
  Option.bind (idx s1.2.1 v12) fun x53=>
  Option.bind (setI s1.2.1 v12 true) fun y198=>
  Option.bind (appS 8 s1.1 ([v12]:List Int)) fun x57=>
  some ((x57:(List Int)),(y198:(List Bool)))
 else
  some ((s1.1:(List Int)),(s1.2.1:(List Bool)))) fun q5=>
 some (.inr (.inr ((q5.1:(List Int)),(q5.2:(List Bool)),(q4:(List Int)))))
def s_l7Attract_b4 (p0:l7Game) (p1:(List Bool)) (p2:Int) (x66:Int) (s9:(List Int)×Int×(List Bool)×(List Int)):Option ((List Bool)⊕(((List Int)×Int×(List Bool)×(List Int))⊕((List Int)×Int×(List Bool)×(List Int)))):=
 Option.bind (idx p0.prev x66) fun x72=>
 bif decide (s9.2.1<(x72.length:Int)) then
  Option.bind (idx p0.prev x66) fun x81=>
  Option.bind (idx x81 s9.2.1) fun x84=>
  Option.bind (idx p1 x84) fun x88=>
  Option.bind (bif (!x88) then
  some true
  else
  Option.bind (idx s9.2.2.1 x84) fun x94=>
  some x94) fun p96=>
  Option.bind (bif p96 then
  some true
  else
  Option.bind (s_l7Edge p0 x84 x66) fun x101=>
  some (!x101)) fun p103=>
  bif p103 then
   some (.inr (.inr ((s9.1:(List Int)),((IntKind.i64.wrap (s9.2.1+1)):Int),(s9.2.2.1:(List Bool)),(s9.2.2.2:(List Int)))))
  else
   Option.bind (idx s9.2.2.2 x84) fun x106=>
   Option.bind (idx s9.2.2.2 x84) fun x109=>
   Option.bind (setI s9.2.2.2 x84 (IntKind.i64.wrap (x106-1))) fun y201=>
   Option.bind (idx p0.owner x84) fun x113=>
   Option.bind (bif (x113==p2) then
   some true
   else
   Option.bind (idx y201 x84) fun x120=>
   some (x120==0)) fun p123=>
   Option.bind (bif p123 then
    Option.bind (idx s9.2.2.1 x84) fun x126=>
    Option.bind (setI s9.2.2.1 x84 true) fun y202=>
    Option.bind (appS 8 s9.1 ([x84]:List Int)) fun x130=>
    some ((x130:(List Int)),(y202:(List Bool)))
   else
    some ((s9.1:(List Int)),(s9.2.2.1:(List Bool)))) fun q12=>
   some (.inr (.inr ((q12.1:(List Int)),((IntKind.i64.wrap (s9.2.1+1)):Int),(q12.2:(List Bool)),(y201:(List Int)))))
 else
  some (.inr (.inl ((s9.1:(List Int)),(s9.2.1:Int),(s9.2.2.1:(List Bool)),(s9.2.2.2:(List Int)))))
def s_l7Attract_b2 (p0:l7Game) (p1:(List Bool)) (p2:Int) (s6:(List Int)×Int×(List Bool)×(List Int)):Option ((List Bool)⊕(((List Int)×Int×(List Bool)×(List Int))⊕((List Int)×Int×(List Bool)×(List Int)))):=
 bif decide (s6.2.1<(s6.1.length:Int)) then
  Option.bind (idx s6.1 s6.2.1) fun x66=>
  Option.bind (whileM (s_l7Attract_b4 p0 p1 p2 x66) (2 ^ 64) ((s6.1:(List Int)),(0:Int),(s6.2.2.1:(List Bool)),(s6.2.2.2:(List Int)))) fun q10=>
  aft (fun r=>some (.inl r)) (fun s11=>
   some (.inr (.inr ((s11.1:(List Int)),((IntKind.i64.wrap (s6.2.1+1)):Int),(s11.2.2.1:(List Bool)),(s11.2.2.2:(List Int)))))) q10
 else
  some (.inr (.inl ((s6.1:(List Int)),(s6.2.1:Int),(s6.2.2.1:(List Bool)),(s6.2.2.2:(List Int)))))
def s_l7Attract (p0:l7Game) (p1:(List Bool)) (p2:Int) (p3:(List Bool)):Option ((List Bool)):=
 Option.bind (mkS 1 (p1.length:Int) (false:Bool)) fun x19=>
 Option.bind (mkS 8 (p1.length:Int) (0:Int)) fun x22=>
 Option.bind (cntM (s_l7Attract_b0 p0 p1 p3) p1.length 0 ((([]:List Int):(List Int)),(x19:(List Bool)),(x22:(List Int)))) fun q2=>
 aft (fun r=>some r) (fun s3=>
  Option.bind (whileM (s_l7Attract_b2 p0 p1 p2) (2 ^ 64) ((s3.1:(List Int)),(0:Int),(s3.2.1:(List Bool)),(s3.2.2:(List Int)))) fun q7=>
  aft (fun r=>some r) (fun s8=>
   some (s8.2.2.1:(List Bool))) q7) q2
def s_l7Less_b0 (p0:(List Bool)) (p1:(List Bool)) (v6:Int) (s1:(List Bool)):Option ((List Bool)⊕(((List Bool))⊕((List Bool)))):=
 Option.bind (idx p0 v6) fun x20=>
 Option.bind (bif x20 then
 Option.bind (idx p1 v6) fun x25=>
 some (!x25)
 else
 some false) fun p28=>
 Option.bind (idx s1 v6) fun x29=>
 Option.bind (setI s1 v6 p28) fun y206=>
 some (.inr (.inr (y206:(List Bool))))
def s_l7Less (p0:(List Bool)) (p1:(List Bool)):Option ((List Bool)):=
 Option.bind (mkS 1 (p0.length:Int) (false:Bool)) fun x9=>
 Option.bind (cntM (s_l7Less_b0 p0 p1) p0.length 0 (x9:(List Bool))) fun q2=>
 aft (fun r=>some r) (fun s3=>
  some (s3:(List Bool))) q2
def s_l7Win_b0 (p0:l7Game) (p1:(List Bool)) (x21:Int) (v9:Int) (s1:(List Bool)):Option ((List Bool)⊕(((List Bool))⊕((List Bool)))):=
 Option.bind (idx p1 v9) fun x43=>
 Option.bind (bif x43 then
 Option.bind (idx p0.prio v9) fun x49=>
 some (x49==x21)
 else
 some false) fun p53=>
 Option.bind (idx s1 v9) fun x54=>
 Option.bind (setI s1 v9 p53) fun y190=>
 some (.inr (.inr (y190:(List Bool))))
def s_l7Win_b2 (x21:Int) (x61:(List Bool)) (x64:(List Bool)) (v14:Int) (s4:Bool×(List Bool)):Option ((List Bool)⊕((Bool×(List Bool))⊕(Bool×(List Bool)))):=
 Option.bind (idx x61 v14) fun x78=>
 Option.bind (bif x78 then
 Option.bind (idx x64 v14) fun x83=>
 some (x83 !=((Int.tmod x21 2)==0))
 else
 some false) fun p88=>
 Option.bind (idx s4.2 v14) fun x89=>
 Option.bind (setI s4.2 v14 p88) fun y209=>
 Option.bind (bif s4.1 then
 some true
 else
 Option.bind (idx y209 v14) fun x94=>
 some x94) fun p96=>
 some (.inr (.inr ((p96:Bool),(y209:(List Bool)))))
def s_l7Win_b4 (p1:(List Bool)) (x21:Int) (v15:Int) (s7:(List Bool)):Option ((List Bool)⊕(((List Bool))⊕((List Bool)))):=
 Option.bind (idx p1 v15) fun x109=>
 Option.bind (bif x109 then
 some ((Int.tmod x21 2)==0)
 else
 some false) fun p114=>
 Option.bind (idx s7 v15) fun x115=>
 Option.bind (setI s7 v15 p114) fun y210=>
 some (.inr (.inr (y210:(List Bool))))
def s_l7Win_b6 (x21:Int) (x122:(List Bool)) (x127:(List Bool)) (v18:Int) (s10:(List Bool)):Option ((List Bool)⊕(((List Bool))⊕((List Bool)))):=
 Option.bind (idx x127 v18) fun x138=>
 Option.bind (bif x138 then
 some true
 else
 Option.bind (idx x122 v18) fun x143=>
 Option.bind (bif x143 then
 some ((Int.tmod x21 2)==1)
 else
 some false) fun p148=>
 some p148) fun p149=>
 Option.bind (idx s10 v18) fun x150=>
 Option.bind (setI s10 v18 p149) fun y214=>
 some (.inr (.inr (y214:(List Bool))))
def s_l7Win_s (rc:l7Game→(List Bool)→Option ((List Bool))) (p0:l7Game) (p1:(List Bool)):Option ((List Bool)):=
 Option.bind (s_l7Top p0 p1) fun x21=>
 Option.bind (mkS 1 (p1.length:Int) (false:Bool)) fun x24=>
 bif decide (x21<0) then
  some (x24:(List Bool))
 else
  Option.bind (mkS 1 (p1.length:Int) (false:Bool)) fun x32=>
  Option.bind (cntM (s_l7Win_b0 p0 p1 x21) p1.length 0 (x32:(List Bool))) fun q2=>
  aft (fun r=>some r) (fun s3=>
   Option.bind (s_l7Attract p0 p1 (Int.tmod x21 2) s3) fun x60=>
   Option.bind (s_l7Less p1 x60) fun x61=>
   Option.bind (rc p0 x61) fun x64=>
   Option.bind (mkS 1 (p1.length:Int) (false:Bool)) fun x67=>
   Option.bind (cntM (s_l7Win_b2 x21 x61 x64) p1.length 0 ((false:Bool),(x67:(List Bool)))) fun q5=>
   aft (fun r=>some r) (fun s6=>
    bif (!s6.1) then
     Option.bind (cntM (s_l7Win_b4 p1 x21) p1.length 0 (x24:(List Bool))) fun q8=>
     aft (fun r=>some r) (fun s9=>
      some (s9:(List Bool))) q8
    else
     Option.bind (s_l7Attract p0 p1 (IntKind.i64.wrap (1-(Int.tmod x21 2))) s6.2) fun x122=>
     Option.bind (s_l7Less p1 x122) fun x126=>
     Option.bind (rc p0 x126) fun x127=>
     Option.bind (cntM (s_l7Win_b6 x21 x122 x127) p1.length 0 (x24:(List Bool))) fun q11=>
     aft (fun r=>some r) (fun s12=>
      some (s12:(List Bool))) q11) q5) q2
def s_l7Win:Nat→l7Game→(List Bool)→Option ((List Bool))
 | 0=>fun _ _=>none
 | n+1=>s_l7Win_s (s_l7Win n)
def s_l1Flag (p0:Bool):Option (Int):=
 bif p0 then
  some (1:Int)
 else
  some (0:Int)
def s_l7Won_b0 (x12:(List Bool)) (v5:Int) (s1:(List Int)):Option ((List Int)⊕(((List Int))⊕((List Int)))):=
 Option.bind (idx x12 v5) fun x23=>
 Option.bind (s_l1Flag x23) fun x25=>
 Option.bind (appS 8 s1 ([(IntKind.i64.wrap (1-x25))]:List Int)) fun x28=>
 some (.inr (.inr (x28:(List Int))))
def s_l7Won (p0:Parity):Option ((List Int)):=
 Option.bind (s_l7Of p0) fun x7=>
 Option.bind (s_l7All (p0.Prio.length:Int)) fun x11=>
 Option.bind (s_l7Win (2 ^ 64) x7 x11) fun x12=>
 Option.bind (cntM (s_l7Won_b0 x12) x12.length 0 (([]:List Int):(List Int))) fun q2=>
 aft (fun r=>some r) (fun s3=>
  some (s3:(List Int))) q2
def s_l7Same_b0 (p0:(List Int)) (p1:(List Int)) (v5:Int) (s1:Unit):Option (Bool⊕((Unit)⊕(Unit))):=
 Option.bind (idx p0 v5) fun x19=>
 Option.bind (idx p1 v5) fun x23=>
 bif (x19 !=x23) then
  some (.inl (false:Bool))
 else
  some (.inr (.inr ()))
def s_l7Same (p0:(List Int)) (p1:(List Int)):Option (Bool):=
 bif ((p0.length:Int) !=(p1.length:Int)) then
  some (false:Bool)
 else
  Option.bind (cntM (s_l7Same_b0 p0 p1) p0.length 0 ()) fun q2=>
  aft (fun r=>some r) (fun s3=>
   some (true:Bool)) q2
def s_KeepsWon (p0:Parity) (p1:(List Int)):Option (Bool):=
 Option.bind (s_OnlyBy p0 p1) fun x10=>
 Option.bind (bif x10.2 then
 Option.bind (s_l7Won x10.1) fun x16=>
 Option.bind (s_l7Won p0) fun x18=>
 Option.bind (s_l7Same x16 x18) fun x19=>
 some x19
 else
 some false) fun p20=>
 some (p20:Bool)
def s_l7Region_b0 (p0:(List Int)) (p1:Int) (v6:Int) (s1:(List Bool)):Option ((List Bool)⊕(((List Bool))⊕((List Bool)))):=
 Option.bind (idx p0 v6) fun x20=>
 Option.bind (idx s1 v6) fun x24=>
 Option.bind (setI s1 v6 (x20==p1)) fun y225=>
 some (.inr (.inr (y225:(List Bool))))
def s_l7Region (p0:(List Int)) (p1:Int):Option ((List Bool)):=
 Option.bind (mkS 1 (p0.length:Int) (false:Bool)) fun x9=>
 Option.bind (cntM (s_l7Region_b0 p0 p1) p0.length 0 (x9:(List Bool))) fun q2=>
 aft (fun r=>some r) (fun s3=>
  some (s3:(List Bool))) q2
def s_l7Holds_b0 (p1:(List Bool)) (p2:Int) (x11:(List Bool)) (v8:Int) (s1:Unit):Option (Bool⊕((Unit)⊕(Unit))):=
 Option.bind (idx p1 v8) fun x20=>
 Option.bind (bif x20 then
 Option.bind (idx x11 v8) fun x25=>
 some (x25 !=(p2==0))
 else
 some false) fun p30=>
 bif p30 then
  some (.inl (false:Bool))
 else
  some (.inr (.inr ()))
def s_l7Holds (p0:l7Game) (p1:(List Bool)) (p2:Int):Option (Bool):=
 Option.bind (s_l7Win (2 ^ 64) p0 p1) fun x11=>
 Option.bind (cntM (s_l7Holds_b0 p1 p2 x11) p1.length 0 ()) fun q2=>
 aft (fun r=>some r) (fun s3=>
  some (true:Bool)) q2
def s_l7Pick_b0 (p0:l7Game) (p1:(List Bool)) (p2:Int) (s1:Int×(List Int)):Option ((Int×(List Int))⊕((Int×(List Int))⊕(Int×(List Int)))):=
 Option.bind (idx p0.next p2) fun x13=>
 bif decide (s1.1<(x13.length:Int)) then
  Option.bind (idx p0.next p2) fun x22=>
  Option.bind (idx x22 s1.1) fun x25=>
  Option.bind (idx p1 x25) fun x29=>
  bif (!x29) then
   some (.inr (.inr (((IntKind.i64.wrap (s1.1+1)):Int),(s1.2:(List Int)))))
  else
   Option.bind (idx s1.2 p2) fun x36=>
   Option.bind (setI s1.2 p2 x25) fun y228=>
   Option.bind (idx p0.owner p2) fun x42=>
   Option.bind (s_l7Holds (⟨p0.owner,p0.prio,p0.next,p0.prev,y228⟩:l7Game) p1 x42) fun x44=>
   bif x44 then
    some (.inl ((x25:Int),(y228:(List Int))))
   else
    some (.inr (.inr (((IntKind.i64.wrap (s1.1+1)):Int),(y228:(List Int)))))
 else
  some (.inr (.inl ((s1.1:Int),(s1.2:(List Int)))))
def s_l7Pick (p0:l7Game) (p1:(List Bool)) (p2:Int):Option (Int×(List Int)):=
 Option.bind (whileM (s_l7Pick_b0 p0 p1 p2) (2 ^ 64) ((0:Int),(p0.pick:(List Int)))) fun q2=>
 aft (fun r=>some r) (fun s3=>
  some (((-1):Int),(s3.2:(List Int)))) q2
def s_PlanFrom_b0 (p0:Parity) (p1:(List Int)) (x19:(List Int)) (v8:Int) (s1:(List Int)):Option ((Answer×Bool)⊕(((List Int))⊕((List Int)))):=
 Option.bind (idx p1 v8) fun x30=>
 Option.bind (bif (x30 !=(-1)) then
 Option.bind (idx x19 v8) fun x36=>
 Option.bind (idx p0.Arena.Owner v8) fun x42=>
 some (x36 !=x42)
 else
 some false) fun p45=>
 bif p45 then
  some (.inl (((⟨([]:List Int),([]:List Int)⟩:Answer):Answer),(false:Bool)))
 else
  Option.bind (idx p1 v8) fun x52=>
  Option.bind (idx s1 v8) fun x54=>
  Option.bind (setI s1 v8 x52) fun y222=>
  some (.inr (.inr (y222:(List Int))))
def s_PlanFrom_b2 (p0:Parity) (x19:(List Int)) (x21:l7Game) (x56:(List Bool)) (x58:(List Bool)) (v11:Int) (s4:(List Int)):Option ((Answer×Bool)⊕(((List Int))⊕((List Int)))):=
 Option.bind (idx s4 v11) fun x68=>
 Option.bind (bif decide (0≤x68) then
 some true
 else
 Option.bind (idx x19 v11) fun x74=>
 Option.bind (idx p0.Arena.Owner v11) fun x80=>
 some (x74 !=x80)) fun p83=>
 bif p83 then
  some (.inr (.inr (s4:(List Int))))
 else
  Option.bind (idx x19 v11) fun x87=>
  Option.bind (bif (x87==1) then
   some (x58:(List Bool))
  else
   some (x56:(List Bool))) fun q7=>
  Option.bind (s_l7Pick (⟨x21.owner,x21.prio,x21.next,x21.prev,s4⟩:l7Game) q7 v11) fun x97=>
  Option.bind (idx x97.2 v11) fun x98=>
  Option.bind (setI x97.2 v11 x97.1) fun y231=>
  some (.inr (.inr (y231:(List Int))))
def s_PlanFrom (p0:Parity) (p1:(List Int)):Option (Answer×Bool):=
 Option.bind (s_KeepsWon p0 p1) fun x15=>
 bif (!x15) then
  some (((⟨([]:List Int),([]:List Int)⟩:Answer):Answer),(false:Bool))
 else
  Option.bind (s_l7Won p0) fun x19=>
  Option.bind (s_l7Of p0) fun x21=>
  Option.bind (cntM (s_PlanFrom_b0 p0 p1 x19) p1.length 0 (x21.pick:(List Int))) fun q2=>
  aft (fun r=>some r) (fun s3=>
   Option.bind (s_l7Region x19 0) fun x56=>
   Option.bind (s_l7Region x19 1) fun x58=>
   Option.bind (cntM (s_PlanFrom_b2 p0 x19 x21 x56 x58) x19.length 0 (s3:(List Int))) fun q5=>
   aft (fun r=>some r) (fun s6=>
    some (((⟨x19,s6⟩:Answer):Answer),(true:Bool))) q5) q2
def s_Solved (p0:Parity):Option (Answer):=
 Option.bind (s_ParityOk p0) fun x6=>
 bif (!x6) then
  some ((⟨([]:List Int),([]:List Int)⟩:Answer):Answer)
 else
  Option.bind (s_l7None (p0.Prio.length:Int)) fun x14=>
  Option.bind (s_PlanFrom p0 x14) fun x15=>
  some (x15.1:Answer)
def i_isAnswer_b0 (p0:Parity) (p1:Answer) (v27:Int) (s1:Unit):Option (Bool⊕((Unit)⊕(Unit))):=
 Option.bind (idx p1.Won v27) fun x30=>
 Option.bind (idx p0.Arena.Owner v27) fun x36=>
 Option.bind (i_isPlayer x30) fun x41=>
 Option.bind (bif (!x41) then
 some true
 else
 Option.bind (bif (x36==x30) then
 Option.bind (idx p0.Arena.Next v27) fun x50=>
 Option.bind (idx p1.Plan v27) fun x55=>
 Option.bind (slices_Contains_I_int64 x50 x55) fun x57=>
 some (!x57)
 else
 some false) fun p59=>
 some p59) fun p60=>
 Option.bind (bif p60 then
 some true
 else
 Option.bind (bif (!(x36==x30)) then
 Option.bind (idx p1.Plan v27) fun x68=>
 some (x68 !=(-1))
 else
 some false) fun p71=>
 some p71) fun p72=>
 bif p72 then
  some (.inl (false:Bool))
 else
  some (.inr (.inr ()))
def i_isAnswer (p0:Parity) (p1:Answer):Option (Bool):=
 Option.bind (bif ((p1.Won.length:Int) !=(p0.Prio.length:Int)) then
 some true
 else
 some ((p1.Plan.length:Int) !=(p0.Prio.length:Int))) fun p23=>
 bif p23 then
  some (false:Bool)
 else
  Option.bind (cntM (i_isAnswer_b0 p0 p1) p1.Won.length 0 ()) fun q2=>
  aft (fun r=>some r) (fun s3=>
   some (true:Bool)) q2
def i_RegionOf_b0 (p0:Answer) (p1:Int) (v16:Int) (s1:(List Int)):Option ((List Int)⊕(((List Int))⊕((List Int)))):=
 Option.bind (idx p0.Won v16) fun x19=>
 Option.bind (bif (x19==p1) then
  Option.bind (appS 8 s1 ([v16]:List Int)) fun x27=>
  some (x27:(List Int))
 else
  some (s1:(List Int))) fun q4=>
 some (.inr (.inr (q4:(List Int))))
def i_RegionOf (p0:Answer) (p1:Int):Option ((List Int)):=
 bif decide (256<(p0.Won.length:Int)) then
  some (([]:List Int):(List Int))
 else
  Option.bind (cntM (i_RegionOf_b0 p0 p1) p0.Won.length 0 (([]:List Int):(List Int))) fun q2=>
  aft (fun r=>some r) (fun s3=>
   some (s3:(List Int))) q2
def i_noPlan_b0  (v11:Int) (s1:(List Int)):Option ((List Int)⊕(((List Int))⊕((List Int)))):=
 Option.bind (idx s1 v11) fun x16=>
 Option.bind (setI s1 v11 (-1)) fun y244=>
 some (.inr (.inr (y244:(List Int))))
def i_noPlan (p0:Arena):Option ((List Int)):=
 Option.bind (mkS 8 (p0.Owner.length:Int) (0:Int)) fun x8=>
 Option.bind (cntM i_noPlan_b0 x8.length 0 (x8:(List Int))) fun q2=>
 aft (fun r=>some r) (fun s3=>
  some (s3:(List Int))) q2
def i_partOf_b0 (p0:Parity) (p1:Answer) (p2:Int) (v16:Int) (s1:(List Int)):Option ((List Int)⊕(((List Int))⊕((List Int)))):=
 Option.bind (idx p1.Plan v16) fun x19=>
 Option.bind (idx p0.Arena.Owner v16) fun x25=>
 Option.bind (bif (x25==p2) then
  Option.bind (idx s1 v16) fun x32=>
  Option.bind (setI s1 v16 x19) fun y245=>
  some (y245:(List Int))
 else
  some (s1:(List Int))) fun q4=>
 some (.inr (.inr (q4:(List Int))))
def i_partOf (p0:Parity) (p1:Answer) (p2:Int):Option ((List Int)):=
 Option.bind (i_noPlan p0.Arena) fun x12=>
 Option.bind (cntM (i_partOf_b0 p0 p1 p2) p1.Plan.length 0 (x12:(List Int))) fun q2=>
 aft (fun r=>some r) (fun s3=>
  some (s3:(List Int))) q2
def i_markOf_b0 (p1:(List Int)) (v14:Int) (s1:(List Bool)):Option ((List Bool)⊕(((List Bool))⊕((List Bool)))):=
 Option.bind (idx p1 v14) fun x16=>
 Option.bind (idx s1 x16) fun x20=>
 Option.bind (setI s1 x16 true) fun y250=>
 some (.inr (.inr (y250:(List Bool))))
def i_markOf (p0:Arena) (p1:(List Int)):Option ((List Bool)):=
 Option.bind (mkS 1 (p0.Owner.length:Int) (false:Bool)) fun x11=>
 Option.bind (cntM (i_markOf_b0 p1) p1.length 0 (x11:(List Bool))) fun q2=>
 aft (fun r=>some r) (fun s3=>
  some (s3:(List Bool))) q2
def i_closedIn_b2 (x16:(List Bool)) (x48:(List Int)) (v51:Int) (s4:Unit):Option (Bool⊕((Unit)⊕(Unit))):=
 Option.bind (idx x48 v51) fun x53=>
 Option.bind (idx x16 x53) fun x57=>
 bif (!x57) then
  some (.inl (false:Bool))
 else
  some (.inr (.inr ()))
def i_closedIn_b0 (p0:Arena) (p1:Int) (p2:(List Int)) (p3:(List Int)) (x16:(List Bool)) (v19:Int) (s1:Unit):Option (Bool⊕((Unit)⊕(Unit))):=
 Option.bind (idx p2 v19) fun x21=>
 Option.bind (idx p0.Owner x21) fun x26=>
 bif (x26==p1) then
  Option.bind (idx p3 x21) fun x32=>
  Option.bind (bif decide (x32<0) then
  some true
  else
  Option.bind (idx p3 x21) fun x39=>
  Option.bind (idx x16 x39) fun x41=>
  some (!x41)) fun p44=>
  bif p44 then
   some (.inl (false:Bool))
  else
   some (.inr (.inr ()))
 else
  Option.bind (idx p0.Next x21) fun x48=>
  Option.bind (cntM (i_closedIn_b2 x16 x48) x48.length 0 ()) fun q5=>
  aft (fun r=>some (.inl r)) (fun s6=>
   some (.inr (.inr ()))) q5
def i_closedIn (p0:Arena) (p1:Int) (p2:(List Int)) (p3:(List Int)):Option (Bool):=
 Option.bind (i_markOf p0 p2) fun x16=>
 Option.bind (cntM (i_closedIn_b0 p0 p1 p2 p3 x16) p2.length 0 ()) fun q2=>
 aft (fun r=>some r) (fun s3=>
  some (true:Bool)) q2
def i_fixedBy_b0 (p1:(List Int)) (v12:Int) (s1:(List (List Int))):Option (Arena⊕(((List (List Int)))⊕((List (List Int))))):=
 Option.bind (idx p1 v12) fun x15=>
 Option.bind (bif decide (0≤x15) then
  Option.bind (idx s1 v12) fun x24=>
  Option.bind (setI s1 v12 (([x15]:List Int):(List Int))) fun y255=>
  some (y255:(List (List Int)))
 else
  some (s1:(List (List Int)))) fun q4=>
 some (.inr (.inr (q4:(List (List Int)))))
def i_fixedBy (p0:Arena) (p1:(List Int)):Option (Arena):=
 Option.bind (i_copyArena p0) fun x9=>
 Option.bind (cntM (i_fixedBy_b0 p1) p1.length 0 (x9.Next:(List (List Int)))) fun q2=>
 aft (fun r=>some r) (fun s3=>
  some ((⟨x9.Owner,s3⟩:Arena):Arena)) q2
def i_listOf_b0 (p0:(List Bool)) (v9:Int) (s1:(List Int)):Option ((List Int)⊕(((List Int))⊕((List Int)))):=
 Option.bind (idx p0 v9) fun x12=>
 Option.bind (bif x12 then
  Option.bind (appS 8 s1 ([v9]:List Int)) fun x18=>
  some (x18:(List Int))
 else
  some (s1:(List Int))) fun q4=>
 some (.inr (.inr (q4:(List Int))))
def i_listOf (p0:(List Bool)):Option ((List Int)):=
 Option.bind (cntM (i_listOf_b0 p0) p0.length 0 (([]:List Int):(List Int))) fun q2=>
 aft (fun r=>some r) (fun s3=>
  some (s3:(List Int))) q2
def i_reachIn_b2 (p2:(List Bool)) (x28:(List Int)) (v31:Int) (s4:(List Int)×(List Bool)):Option ((List Bool)⊕(((List Int)×(List Bool))⊕((List Int)×(List Bool)))):=
 Option.bind (idx x28 v31) fun x33=>
 Option.bind (idx s4.2 x33) fun x37=>
 Option.bind (bif (!x37) then
 Option.bind (neS p2) fun _z42=>
 Option.bind (idx p2 x33) fun x46=>
 some x46
 else
 some false) fun p49=>
 Option.bind (bif p49 then
  Option.bind (idx s4.2 x33) fun x52=>
  Option.bind (setI s4.2 x33 true) fun y266=>
  Option.bind (appS 8 s4.1 ([x33]:List Int)) fun x56=>
  some ((x56:(List Int)),(y266:(List Bool)))
 else
  some ((s4.1:(List Int)),(s4.2:(List Bool)))) fun q7=>
 some (.inr (.inr ((q7.1:(List Int)),(q7.2:(List Bool)))))
def i_reachIn_b0 (p0:Arena) (p2:(List Bool)) (s1:(List Int)×(List Bool)):Option ((List Bool)⊕(((List Int)×(List Bool))⊕((List Int)×(List Bool)))):=
 bif decide (0<(s1.1.length:Int)) then
  Option.bind (idx s1.1 0) fun x21=>
  Option.bind (subS s1.1 1 (s1.1.length:Int)) fun x24=>
  Option.bind (idx p0.Next x21) fun x28=>
  Option.bind (cntM (i_reachIn_b2 p2 x28) x28.length 0 ((x24:(List Int)),(s1.2:(List Bool)))) fun q5=>
  aft (fun r=>some (.inl r)) (fun s6=>
   some (.inr (.inr ((s6.1:(List Int)),(s6.2:(List Bool)))))) q5
 else
  some (.inr (.inl ((s1.1:(List Int)),(s1.2:(List Bool)))))
def i_reachIn (p0:Arena) (p1:(List Bool)) (p2:(List Bool)):Option ((List Bool)):=
 Option.bind (appS 1 ([]:List Bool) p1) fun x14=>
 Option.bind (i_listOf p1) fun x16=>
 Option.bind (whileM (i_reachIn_b0 p0 p2) (2 ^ 64) ((x16:(List Int)),(x14:(List Bool)))) fun q2=>
 aft (fun r=>some r) (fun s3=>
  some (s3.2:(List Bool))) q2
def i_badLoops_b2 (p0:Parity) (p2:(List Int)) (x28:Int) (v44:Int) (s4:(List Bool)):Option ((List Int)⊕(((List Bool))⊕((List Bool)))):=
 Option.bind (idx p2 v44) fun x46=>
 Option.bind (idx p0.Prio x46) fun x53=>
 Option.bind (idx p0.Prio x28) fun x58=>
 Option.bind (idx s4 x46) fun x61=>
 Option.bind (setI s4 x46 (decide (x53≤x58))) fun y258=>
 some (.inr (.inr (y258:(List Bool))))
def i_badLoops_b4 (s6:(List Bool)) (x70:(List Int)) (v73:Int) (s7:(List Bool)):Option ((List Int)⊕(((List Bool))⊕((List Bool)))):=
 Option.bind (idx x70 v73) fun x75=>
 Option.bind (idx s6 x75) fun x81=>
 Option.bind (idx s7 x75) fun x83=>
 Option.bind (setI s7 x75 x81) fun y260=>
 some (.inr (.inr (y260:(List Bool))))
def i_badLoops_b0 (p0:Parity) (p1:Int) (p2:(List Int)) (x22:Arena) (v26:Int) (s1:(List Int)):Option ((List Int)⊕(((List Int))⊕((List Int)))):=
 Option.bind (idx p2 v26) fun x28=>
 Option.bind (idx p0.Prio x28) fun x33=>
 bif ((Int.tmod x33 2)==p1) then
  some (.inr (.inr (s1:(List Int))))
 else
  Option.bind (mkS 1 (p0.Prio.length:Int) (false:Bool)) fun x41=>
  Option.bind (cntM (i_badLoops_b2 p0 p2 x28) p2.length 0 (x41:(List Bool))) fun q5=>
  aft (fun r=>some (.inl r)) (fun s6=>
   Option.bind (mkS 1 (p0.Prio.length:Int) (false:Bool)) fun x66=>
   Option.bind (idx x22.Next x28) fun x70=>
   Option.bind (cntM (i_badLoops_b4 s6 x70) x70.length 0 (x66:(List Bool))) fun q8=>
   aft (fun r=>some (.inl r)) (fun s9=>
    Option.bind (i_reachIn x22 s9 s6) fun x88=>
    Option.bind (idx x88 x28) fun x90=>
    Option.bind (bif x90 then
     Option.bind (appS 8 s1 ([x28]:List Int)) fun x95=>
     some (x95:(List Int))
    else
     some (s1:(List Int))) fun q10=>
    some (.inr (.inr (q10:(List Int))))) q8) q5
def i_badLoops (p0:Parity) (p1:Int) (p2:(List Int)) (p3:(List Int)):Option ((List Int)):=
 Option.bind (i_fixedBy p0.Arena p3) fun x22=>
 Option.bind (cntM (i_badLoops_b0 p0 p1 p2 x22) p2.length 0 (([]:List Int):(List Int))) fun q2=>
 aft (fun r=>some r) (fun s3=>
  some (s3:(List Int))) q2
def i_winsBy (p0:Parity) (p1:Int) (p2:(List Int)) (p3:(List Int)):Option (Bool):=
 Option.bind (i_closedIn p0.Arena p1 p2 p3) fun x14=>
 Option.bind (bif x14 then
 Option.bind (i_badLoops p0 p1 p2 p3) fun x20=>
 some ((x20.length:Int)==0)
 else
 some false) fun p23=>
 some (p23:Bool)
def i_AnswerOk_b0 (p0:Parity) (p1:Answer) (s1:Int):Option (Bool⊕((Int)⊕(Int))):=
 bif decide (s1≤1) then
  Option.bind (i_RegionOf p1 s1) fun x23=>
  Option.bind (i_partOf p0 p1 s1) fun x27=>
  Option.bind (i_winsBy p0 s1 x23 x27) fun x28=>
  bif (!x28) then
   some (.inl (false:Bool))
  else
   some (.inr (.inr ((IntKind.i64.wrap (s1+1)):Int)))
 else
  some (.inr (.inl (s1:Int)))
def i_AnswerOk (p0:Parity) (p1:Answer):Option (Bool):=
 Option.bind (i_ParityOk p0) fun x7=>
 Option.bind (bif (!x7) then
 some true
 else
 Option.bind (i_isAnswer p0 p1) fun x12=>
 some (!x12)) fun p14=>
 bif p14 then
  some (false:Bool)
 else
  Option.bind (whileM (i_AnswerOk_b0 p0 p1) (2 ^ 64) (0:Int)) fun q2=>
  aft (fun r=>some r) (fun s3=>
   some (true:Bool)) q2
def i_AllOf_b0  (v4:Int) (s1:(List Int)):Option ((List Int)⊕(((List Int))⊕((List Int)))):=
 Option.bind (appS 8 s1 ([v4]:List Int)) fun x20=>
 some (.inr (.inr (x20:(List Int))))
def i_AllOf (p0:Int):Option ((List Int)):=
 Option.bind (bif decide (p0<0) then
 some true
 else
 some (decide (256<p0))) fun p10=>
 bif p10 then
  some (([]:List Int):(List Int))
 else
  Option.bind (rng p0) fun _=>
  Option.bind (cntM i_AllOf_b0 (Int.toNat (p0-0)) 0 (([]:List Int):(List Int))) fun q2=>
  aft (fun r=>some r) (fun s3=>
   some (s3:(List Int))) q2
def i_allOf (p0:Arena):Option ((List Int)):=
 Option.bind (i_size p0) fun x4=>
 Option.bind (i_AllOf x4) fun x5=>
 some (x5:(List Int))
def i_predsOf_b2 (v15:Int) (x18:(List Int)) (v22:Int) (s4:(List (List Int))):Option ((List (List Int))⊕(((List (List Int)))⊕((List (List Int))))):=
 Option.bind (idx x18 v22) fun x24=>
 Option.bind (idx s4 x24) fun x30=>
 Option.bind (appS 8 x30 ([v15]:List Int)) fun x34=>
 Option.bind (idx s4 x24) fun x35=>
 Option.bind (setI s4 x24 (x34:(List Int))) fun y285=>
 some (.inr (.inr (y285:(List (List Int)))))
def i_predsOf_b0 (p0:Arena) (v15:Int) (s1:(List (List Int))):Option ((List (List Int))⊕(((List (List Int)))⊕((List (List Int))))):=
 Option.bind (idx p0.Next v15) fun x18=>
 Option.bind (cntM (i_predsOf_b2 v15 x18) x18.length 0 (s1:(List (List Int)))) fun q5=>
 aft (fun r=>some (.inl r)) (fun s6=>
  some (.inr (.inr (s6:(List (List Int)))))) q5
def i_predsOf (p0:Arena):Option ((List (List Int))):=
 Option.bind (mkS 24 (p0.Owner.length:Int) (([]:List Int):(List Int))) fun x11=>
 Option.bind (cntM (i_predsOf_b0 p0) p0.Next.length 0 (x11:(List (List Int)))) fun q2=>
 aft (fun r=>some r) (fun s3=>
  some (s3:(List (List Int)))) q2
def i_topIn_b0 (p0:Parity) (p1:(List Int)) (v10:Int) (s1:Int):Option (Int⊕((Int)⊕(Int))):=
 Option.bind (idx p1 v10) fun x12=>
 Option.bind (idx p0.Prio x12) fun x18=>
 some (.inr (.inr ((if s1<x18 then x18 else s1):Int)))
def i_topIn (p0:Parity) (p1:(List Int)):Option (Int):=
 Option.bind (cntM (i_topIn_b0 p0 p1) p1.length 0 ((-1):Int)) fun q2=>
 aft (fun r=>some r) (fun s3=>
  some (s3:Int)) q2
def i_solver_pull_b4 (p2:(List Bool)) (x43:Int) (x79:(List Int)) (v82:Int) (s8:(List Int)):Option ((List Bool)⊕(((List Int))⊕((List Int)))):=
 Option.bind (idx x79 v82) fun x84=>
 Option.bind (idx p2 x84) fun x88=>
 Option.bind (bif x88 then
  Option.bind (idx s8 x43) fun x92=>
  Option.bind (idx s8 x43) fun x95=>
  Option.bind (setI s8 x43 (IntKind.i64.wrap (x92+1))) fun y297=>
  some (y297:(List Int))
 else
  some (s8:(List Int))) fun q11=>
 some (.inr (.inr (q11:(List Int))))
def i_solver_pull_b2 (p0:solver) (p1:Int) (p2:(List Bool)) (x38:(List Int)) (v41:Int) (s4:(List Int)×(List Bool)×(List Int)):Option ((List Bool)⊕(((List Int)×(List Bool)×(List Int))⊕((List Int)×(List Bool)×(List Int)))):=
 Option.bind (idx x38 v41) fun x43=>
 Option.bind (idx s4.2.1 x43) fun x47=>
 Option.bind (bif x47 then
 some true
 else
 Option.bind (idx p2 x43) fun x52=>
 some (!x52)) fun p55=>
 bif p55 then
  some (.inr (.inr ((s4.1:(List Int)),(s4.2.1:(List Bool)),(s4.2.2:(List Int)))))
 else
  Option.bind (idx p0.game.Arena.Owner x43) fun x63=>
  bif (x63 !=p1) then
   Option.bind (idx s4.2.2 x43) fun x69=>
   Option.bind (bif (x69==0) then
    Option.bind (idx p0.game.Arena.Next x43) fun x79=>
    Option.bind (cntM (i_solver_pull_b4 p2 x43 x79) x79.length 0 (s4.2.2:(List Int))) fun q9=>
    aft (fun r=>none) (fun s10=>
     some (s10:(List Int))) q9
   else
    some (s4.2.2:(List Int))) fun q7=>
   Option.bind (idx q7 x43) fun x99=>
   Option.bind (idx q7 x43) fun x102=>
   Option.bind (setI q7 x43 (IntKind.i64.wrap (x99-1))) fun y298=>
   Option.bind (idx y298 x43) fun x105=>
   bif decide (0<x105) then
    some (.inr (.inr ((s4.1:(List Int)),(s4.2.1:(List Bool)),(y298:(List Int)))))
   else
    Option.bind (idx s4.2.1 x43) fun x110=>
    Option.bind (setI s4.2.1 x43 true) fun y299=>
    Option.bind (appS 8 s4.1 ([x43]:List Int)) fun x114=>
    some (.inr (.inr ((x114:(List Int)),(y299:(List Bool)),(y298:(List Int)))))
  else
   Option.bind (idx s4.2.1 x43) fun x110=>
   Option.bind (setI s4.2.1 x43 true) fun y299=>
   Option.bind (appS 8 s4.1 ([x43]:List Int)) fun x114=>
   some (.inr (.inr ((x114:(List Int)),(y299:(List Bool)),(s4.2.2:(List Int)))))
def i_solver_pull_b0 (p0:solver) (p1:Int) (p2:(List Bool)) (s1:(List Int)×(List Bool)×(List Int)):Option ((List Bool)⊕(((List Int)×(List Bool)×(List Int))⊕((List Int)×(List Bool)×(List Int)))):=
 bif decide (0<(s1.1.length:Int)) then
  Option.bind (idx s1.1 0) fun x29=>
  Option.bind (subS s1.1 1 (s1.1.length:Int)) fun x32=>
  Option.bind (idx p0.preds x29) fun x38=>
  Option.bind (cntM (i_solver_pull_b2 p0 p1 p2 x38) x38.length 0 ((x32:(List Int)),(s1.2.1:(List Bool)),(s1.2.2:(List Int)))) fun q5=>
  aft (fun r=>some (.inl r)) (fun s6=>
   some (.inr (.inr ((s6.1:(List Int)),(s6.2.1:(List Bool)),(s6.2.2:(List Int)))))) q5
 else
  some (.inr (.inl ((s1.1:(List Int)),(s1.2.1:(List Bool)),(s1.2.2:(List Int)))))
def i_solver_pull (p0:solver) (p1:Int) (p2:(List Bool)) (p3:(List Bool)):Option ((List Bool)):=
 Option.bind (appS 1 ([]:List Bool) p3) fun x19=>
 Option.bind (mkS 8 (p2.length:Int) (0:Int)) fun x22=>
 Option.bind (i_listOf p3) fun x24=>
 Option.bind (whileM (i_solver_pull_b0 p0 p1 p2) (2 ^ 64) ((x24:(List Int)),(x19:(List Bool)),(x22:(List Int)))) fun q2=>
 aft (fun r=>some r) (fun s3=>
  some (s3.2.1:(List Bool))) q2
def i_without_b0 (p0:(List Bool)) (p1:(List Bool)) (v12:Int) (s1:(List Bool)):Option ((List Bool)⊕(((List Bool))⊕((List Bool)))):=
 Option.bind (idx p0 v12) fun x19=>
 Option.bind (bif x19 then
 Option.bind (idx p1 v12) fun x24=>
 some (!x24)
 else
 some false) fun p27=>
 Option.bind (idx s1 v12) fun x28=>
 Option.bind (setI s1 v12 p27) fun y303=>
 some (.inr (.inr (y303:(List Bool))))
def i_without (p0:(List Bool)) (p1:(List Bool)):Option ((List Bool)):=
 Option.bind (mkS 1 (p0.length:Int) (false:Bool)) fun x9=>
 Option.bind (cntM (i_without_b0 p0 p1) p0.length 0 (x9:(List Bool))) fun q2=>
 aft (fun r=>some r) (fun s3=>
  some (s3:(List Bool))) q2
def slices_Index_bool_bool_b0 (p0:(List Bool)) (p1:Bool) (v8:Int) (s1:Unit):Option (Int⊕((Unit)⊕(Unit))):=
 Option.bind (idx p0 v8) fun x14=>
 bif (p1==x14) then
  some (.inl (v8:Int))
 else
  some (.inr (.inr ()))
def slices_Index_bool_bool (p0:(List Bool)) (p1:Bool):Option (Int):=
 Option.bind (cntM (slices_Index_bool_bool_b0 p0 p1) p0.length 0 ()) fun q2=>
 aft (fun r=>some r) (fun s3=>
  some ((-1):Int)) q2
def slices_Contains_bool_bool (p0:(List Bool)) (p1:Bool):Option (Bool):=
 Option.bind (slices_Index_bool_bool p0 p1) fun x7=>
 some (decide (0≤x7):Bool)
def i_solver_won_b2 (p0:solver) (x27:Int) (s1:(List Bool)) (v38:Int) (s4:(List Bool)):Option (((List Bool)×Int)⊕(((List Bool))⊕((List Bool)))):=
 Option.bind (idx s1 v38) fun x45=>
 Option.bind (bif x45 then
 Option.bind (idx p0.game.Prio v38) fun x54=>
 some (x54==x27)
 else
 some false) fun p58=>
 Option.bind (idx s4 v38) fun x59=>
 Option.bind (setI s4 v38 p58) fun y292=>
 some (.inr (.inr (y292:(List Bool))))
def i_solver_won_b0 (rc:solver→(List Bool)→Option ((List Bool)×Int)) (p0:solver) (p1:(List Bool)) (x27:Int) (s1:(List Bool)):Option (((List Bool)×Int)⊕(((List Bool))⊕((List Bool)))):=
 Option.bind (mkS 1 (p1.length:Int) (false:Bool)) fun x35=>
 Option.bind (cntM (i_solver_won_b2 p0 x27 s1) x35.length 0 (x35:(List Bool))) fun q5=>
 aft (fun r=>some (.inl r)) (fun s6=>
  Option.bind (i_solver_pull p0 (Int.tmod x27 2) s1 s6) fun x66=>
  Option.bind (i_without s1 x66) fun x67=>
  Option.bind (rc p0 x67) fun x71=>
  Option.bind (bif (x71.2==(Int.tmod x27 2)) then
   Option.bind (i_without x67 x71.1) fun x80=>
   some (x80:(List Bool))
  else
   some (x71.1:(List Bool))) fun q7=>
  Option.bind (slices_Contains_bool_bool q7 true) fun x82=>
  bif (!x82) then
   some (.inl ((s1:(List Bool)),((Int.tmod x27 2):Int)))
  else
   Option.bind (i_solver_pull p0 (IntKind.i64.wrap (1-(Int.tmod x27 2))) s1 q7) fun x92=>
   Option.bind (i_without s1 x92) fun x93=>
   Option.bind (slices_Contains_bool_bool x93 true) fun x95=>
   bif (!x95) then
    some (.inl ((x93:(List Bool)),((Int.tmod x27 2):Int)))
   else
    some (.inr (.inr (x93:(List Bool))))) q5
def i_solver_won_s (rc:solver→(List Bool)→Option ((List Bool)×Int)) (p0:solver) (p1:(List Bool)):Option ((List Bool)×Int):=
 Option.bind (i_listOf p1) fun x17=>
 bif ((x17.length:Int)==0) then
  some ((p1:(List Bool)),(0:Int))
 else
  Option.bind (i_topIn p0.game x17) fun x27=>
  Option.bind (appS 1 ([]:List Bool) p1) fun x32=>
  Option.bind (whileM (i_solver_won_b0 rc p0 p1 x27) (2 ^ 64) (x32:(List Bool))) fun q2=>
  aft (fun r=>some r) (fun s3=>
   none) q2
def i_solver_won:Nat→solver→(List Bool)→Option ((List Bool)×Int)
 | 0=>fun _ _=>none
 | n+1=>i_solver_won_s (i_solver_won n)
def i_wonIn (p0:Parity) (p1:(List Int)):Option ((List Int)×(List Int)):=
 Option.bind (i_predsOf p0.Arena) fun x13=>
 Option.bind (i_markOf p0.Arena p1) fun x19=>
 Option.bind (i_solver_won (2 ^ 64) (⟨p0,x13⟩:solver) x19) fun x23=>
 bif (x23.2==0) then
  Option.bind (i_listOf x23.1) fun x29=>
  Option.bind (i_without x19 x23.1) fun x32=>
  Option.bind (i_listOf x32) fun x33=>
  some ((x29:(List Int)),(x33:(List Int)))
 else
  Option.bind (i_without x19 x23.1) fun x36=>
  Option.bind (i_listOf x36) fun x37=>
  Option.bind (i_listOf x23.1) fun x39=>
  some ((x37:(List Int)),(x39:(List Int)))
def i_winners_b0 (x17:(List Int)×(List Int)) (v22:Int) (s1:(List Int)):Option ((List Int)⊕(((List Int))⊕((List Int)))):=
 Option.bind (idx x17.2 v22) fun x24=>
 Option.bind (idx s1 x24) fun x28=>
 Option.bind (setI s1 x24 1) fun y317=>
 some (.inr (.inr (y317:(List Int))))
def i_winners (p0:Parity):Option ((List Int)):=
 Option.bind (mkS 8 (p0.Prio.length:Int) (0:Int)) fun x11=>
 Option.bind (i_allOf p0.Arena) fun x16=>
 Option.bind (i_wonIn p0 x16) fun x17=>
 Option.bind (cntM (i_winners_b0 x17) x17.2.length 0 (x11:(List Int))) fun q2=>
 aft (fun r=>some r) (fun s3=>
  some (s3:(List Int))) q2
def i_onlyBy (p0:Parity) (p1:(List Int)):Option (Parity):=
 Option.bind (i_fixedBy p0.Arena p1) fun x8=>
 Option.bind (appS 8 ([]:List Int) p0.Prio) fun x12=>
 some ((⟨(⟨x8.Owner,x8.Next⟩:Arena),x12⟩:Parity):Parity)
def i_planFrom_b2 (p0:Parity) (p2:(List Int)) (v19:Int) (x46:(List Int)) (x51:(List Int)) (v54:Int) (s4:(List Int)):Option (Answer⊕(((List Int))⊕((List Int)))):=
 Option.bind (idx x51 v54) fun x56=>
 Option.bind (idx p2 x56) fun x60=>
 Option.bind (idx p2 v19) fun x64=>
 bif (x60 !=x64) then
  some (.inr (.inr (s4:(List Int))))
 else
  Option.bind (idx s4 v19) fun x70=>
  Option.bind (setI s4 v19 x56) fun y321=>
  Option.bind (i_onlyBy p0 y321) fun x74=>
  Option.bind (i_wonIn x74 x46) fun x76=>
  Option.bind (idx p2 v19) fun x81=>
  Option.bind (bif (x81==0) then
  some ((x76.2.length:Int)==0)
  else
  some false) fun p88=>
  Option.bind (bif p88 then
  some true
  else
  Option.bind (idx p2 v19) fun x92=>
  Option.bind (bif (x92==1) then
  some ((x76.1.length:Int)==0)
  else
  some false) fun p99=>
  some p99) fun p100=>
  bif p100 then
   some (.inr (.inl (y321:(List Int))))
  else
   Option.bind (idx y321 v19) fun x103=>
   Option.bind (setI y321 v19 (-1)) fun y326=>
   some (.inr (.inr (y326:(List Int))))
def i_planFrom_b0 (p0:Parity) (p2:(List Int)) (v19:Int) (s1:(List Int)):Option (Answer⊕(((List Int))⊕((List Int)))):=
 Option.bind (idx p2 v19) fun x30=>
 Option.bind (idx p0.Arena.Owner v19) fun x26=>
 Option.bind (bif (x26 !=x30) then
 some true
 else
 Option.bind (idx s1 v19) fun x36=>
 some (decide (0≤x36))) fun p39=>
 bif p39 then
  some (.inr (.inr (s1:(List Int))))
 else
  Option.bind (idx p2 v19) fun x44=>
  Option.bind (i_RegionOf (⟨p2,([]:List Int)⟩:Answer) x44) fun x46=>
  Option.bind (idx p0.Arena.Next v19) fun x51=>
  Option.bind (cntM (i_planFrom_b2 p0 p2 v19 x46 x51) x51.length 0 (s1:(List Int))) fun q5=>
  aft (fun r=>some (.inl r)) (fun s6=>
   some (.inr (.inr (s6:(List Int))))) q5
def i_planFrom (p0:Parity) (p1:(List Int)) (p2:(List Int)):Option (Answer):=
 Option.bind (appS 8 ([]:List Int) p1) fun x16=>
 Option.bind (cntM (i_planFrom_b0 p0 p2) x16.length 0 (x16:(List Int))) fun q2=>
 aft (fun r=>some r) (fun s3=>
  Option.bind (appS 8 ([]:List Int) p2) fun x108=>
  some ((⟨x108,s3⟩:Answer):Answer)) q2
def i_Solved (p0:Parity):Option (Answer):=
 Option.bind (i_ParityOk p0) fun x4=>
 bif (!x4) then
  some ((⟨([]:List Int),([]:List Int)⟩:Answer):Answer)
 else
  Option.bind (i_noPlan p0.Arena) fun x10=>
  Option.bind (i_winners p0) fun x12=>
  Option.bind (i_planFrom p0 x10 x12) fun x13=>
  some (x13:Answer)
def i_leadTo_b2 (x28:(List Int)) (v31:Int) (s4:(List Int)×(List Bool)):Option ((List Bool)⊕(((List Int)×(List Bool))⊕((List Int)×(List Bool)))):=
 Option.bind (idx x28 v31) fun x33=>
 Option.bind (idx s4.2 x33) fun x37=>
 Option.bind (bif (!x37) then
  Option.bind (idx s4.2 x33) fun x42=>
  Option.bind (setI s4.2 x33 true) fun y334=>
  Option.bind (appS 8 s4.1 ([x33]:List Int)) fun x46=>
  some ((x46:(List Int)),(y334:(List Bool)))
 else
  some ((s4.1:(List Int)),(s4.2:(List Bool)))) fun q7=>
 some (.inr (.inr ((q7.1:(List Int)),(q7.2:(List Bool)))))
def i_leadTo_b0 (x12:(List (List Int))) (s1:(List Int)×(List Bool)):Option ((List Bool)⊕(((List Int)×(List Bool))⊕((List Int)×(List Bool)))):=
 bif decide (0<(s1.1.length:Int)) then
  Option.bind (idx s1.1 0) fun x22=>
  Option.bind (subS s1.1 1 (s1.1.length:Int)) fun x25=>
  Option.bind (idx x12 x22) fun x28=>
  Option.bind (cntM (i_leadTo_b2 x28) x28.length 0 ((x25:(List Int)),(s1.2:(List Bool)))) fun q5=>
  aft (fun r=>some (.inl r)) (fun s6=>
   some (.inr (.inr ((s6.1:(List Int)),(s6.2:(List Bool)))))) q5
 else
  some (.inr (.inl ((s1.1:(List Int)),(s1.2:(List Bool)))))
def i_leadTo (p0:Arena) (p1:(List Bool)):Option ((List Bool)):=
 Option.bind (i_predsOf p0) fun x12=>
 Option.bind (appS 1 ([]:List Bool) p1) fun x15=>
 Option.bind (i_listOf p1) fun x17=>
 Option.bind (whileM (i_leadTo_b0 x12) (2 ^ 64) ((x17:(List Int)),(x15:(List Bool)))) fun q2=>
 aft (fun r=>some r) (fun s3=>
  some (s3.2:(List Bool))) q2
def i_ResolvedBy_b0 (p1:Answer) (x34:(List Bool)) (v36:Int) (s1:(List Int)×(List Int)):Option ((Answer×Bool)⊕(((List Int)×(List Int))⊕((List Int)×(List Int)))):=
 Option.bind (idx x34 v36) fun x39=>
 Option.bind (bif (!x39) then
  Option.bind (idx p1.Won v36) fun x49=>
  Option.bind (idx s1.1 v36) fun x51=>
  Option.bind (setI s1.1 v36 x49) fun y336=>
  Option.bind (idx p1.Plan v36) fun x58=>
  Option.bind (idx s1.2 v36) fun x60=>
  Option.bind (setI s1.2 v36 x58) fun y337=>
  some ((y336:(List Int)),(y337:(List Int)))
 else
  some ((s1.1:(List Int)),(s1.2:(List Int)))) fun q4=>
 some (.inr (.inr ((q4.1:(List Int)),(q4.2:(List Int)))))
def i_ResolvedBy (p0:Parity) (p1:Answer) (p2:Edit):Option (Answer×Bool):=
 Option.bind (i_AnswerOk p0 p1) fun x13=>
 Option.bind (bif (!x13) then
 some true
 else
 Option.bind (i_isEdit p0 p2) fun x18=>
 some (!x18)) fun p20=>
 bif p20 then
  some (((⟨([]:List Int),([]:List Int)⟩:Answer):Answer),(false:Bool))
 else
  Option.bind (i_edited p0 p2) fun x24=>
  Option.bind (i_Solved x24) fun x25=>
  Option.bind (i_markOf p0.Arena ([p2.V]:List Int)) fun x33=>
  Option.bind (i_leadTo p0.Arena x33) fun x34=>
  Option.bind (cntM (i_ResolvedBy_b0 p1 x34) x34.length 0 ((x25.Won:(List Int)),(x25.Plan:(List Int)))) fun q2=>
  aft (fun r=>some r) (fun s3=>
   some (((⟨s3.1,s3.2⟩:Answer):Answer),(true:Bool))) q2
def i_TouchedBy (p0:Parity) (p1:Edit):Option ((List Int)):=
 Option.bind (i_ParityOk p0) fun x6=>
 Option.bind (bif (!x6) then
 some true
 else
 Option.bind (i_isEdit p0 p1) fun x11=>
 some (!x11)) fun p13=>
 bif p13 then
  some (([]:List Int):(List Int))
 else
  Option.bind (i_markOf p0.Arena ([p1.V]:List Int)) fun x21=>
  Option.bind (i_leadTo p0.Arena x21) fun x22=>
  Option.bind (i_listOf x22) fun x23=>
  some (x23:(List Int))
def i_TurnedBy_b0 (x19:(List Int)) (x23:(List Int)) (v27:Int) (s1:(List Int)):Option ((List Int)⊕(((List Int))⊕((List Int)))):=
 Option.bind (idx x19 v27) fun x32=>
 Option.bind (idx x23 v27) fun x36=>
 Option.bind (bif (x32 !=x36) then
  Option.bind (appS 8 s1 ([v27]:List Int)) fun x42=>
  some (x42:(List Int))
 else
  some (s1:(List Int))) fun q4=>
 some (.inr (.inr (q4:(List Int))))
def i_TurnedBy (p0:Parity) (p1:Edit):Option ((List Int)):=
 Option.bind (i_ParityOk p0) fun x10=>
 Option.bind (bif (!x10) then
 some true
 else
 Option.bind (i_isEdit p0 p1) fun x15=>
 some (!x15)) fun p17=>
 bif p17 then
  some (([]:List Int):(List Int))
 else
  Option.bind (i_winners p0) fun x19=>
  Option.bind (i_edited p0 p1) fun x22=>
  Option.bind (i_winners x22) fun x23=>
  Option.bind (cntM (i_TurnedBy_b0 x19 x23) x19.length 0 (([]:List Int):(List Int))) fun q2=>
  aft (fun r=>some r) (fun s3=>
   some (s3:(List Int))) q2
def s_l1Has_b0 (p0:(List Int)) (p1:Int) (v5:Int) (s1:Unit):Option (Bool⊕((Unit)⊕(Unit))):=
 Option.bind (idx p0 v5) fun x14=>
 bif (x14==p1) then
  some (.inl (true:Bool))
 else
  some (.inr (.inr ()))
def s_l1Has (p0:(List Int)) (p1:Int):Option (Bool):=
 Option.bind (cntM (s_l1Has_b0 p0 p1) p0.length 0 ()) fun q2=>
 aft (fun r=>some r) (fun s3=>
  some (false:Bool)) q2
def s_l6Form_b0 (p0:Parity) (p1:Answer) (v5:Int) (s1:Unit):Option (Bool⊕((Unit)⊕(Unit))):=
 Option.bind (idx p1.Won v5) fun x38=>
 Option.bind (s_l1In x38 0 1) fun x40=>
 bif (!x40) then
  some (.inl (false:Bool))
 else
  Option.bind (idx p1.Won v5) fun x45=>
  Option.bind (idx p0.Arena.Owner v5) fun x51=>
  Option.bind (idx p1.Plan v5) fun x58=>
  Option.bind (bif ((x45==x51) !=(x58 !=(-1))) then
  some true
  else
  Option.bind (bif (x45==x51) then
  Option.bind (idx p0.Arena.Next v5) fun x69=>
  Option.bind (idx p1.Plan v5) fun x74=>
  Option.bind (s_l1Has x69 x74) fun x76=>
  some (!x76)
  else
  some false) fun p78=>
  some p78) fun p79=>
  bif p79 then
   some (.inl (false:Bool))
  else
   some (.inr (.inr ()))
def s_l6Form (p0:Parity) (p1:Answer):Option (Bool):=
 Option.bind (s_ParityOk p0) fun x8=>
 Option.bind (bif (!x8) then
 some true
 else
 some ((p1.Won.length:Int) !=(p0.Prio.length:Int))) fun p18=>
 Option.bind (bif p18 then
 some true
 else
 some ((p1.Plan.length:Int) !=(p0.Prio.length:Int))) fun p27=>
 bif p27 then
  some (false:Bool)
 else
  Option.bind (cntM (s_l6Form_b0 p0 p1) p1.Won.length 0 ()) fun q2=>
  aft (fun r=>some r) (fun s3=>
   some (true:Bool)) q2
def s_RegionOf_b0 (p0:Answer) (p1:Int) (s1:(List Int)×Int):Option ((List Int)⊕(((List Int)×Int)⊕((List Int)×Int))):=
 Option.bind (bif decide (s1.2<(p0.Won.length:Int)) then
 some (decide ((p0.Won.length:Int)≤256))
 else
 some false) fun p18=>
 bif p18 then
  Option.bind (idx p0.Won s1.2) fun x24=>
  Option.bind (bif (x24==p1) then
   Option.bind (appS 8 s1.1 ([s1.2]:List Int)) fun x31=>
   some (x31:(List Int))
  else
   some (s1.1:(List Int))) fun q4=>
  some (.inr (.inr ((q4:(List Int)),((IntKind.i64.wrap (s1.2+1)):Int))))
 else
  some (.inr (.inl ((s1.1:(List Int)),(s1.2:Int))))
def s_RegionOf (p0:Answer) (p1:Int):Option ((List Int)):=
 Option.bind (whileM (s_RegionOf_b0 p0 p1) (2 ^ 64) ((([]:List Int):(List Int)),(0:Int))) fun q2=>
 aft (fun r=>some r) (fun s3=>
  some (s3.1:(List Int))) q2
def s_l6Part_b0 (p0:Parity) (p1:Answer) (p2:Int) (v8:Int) (s1:(List Int)):Option ((List Int)⊕(((List Int))⊕((List Int)))):=
 Option.bind (idx p0.Arena.Owner v8) fun x21=>
 Option.bind (bif (x21==p2) then
  Option.bind (idx p1.Plan v8) fun x29=>
  Option.bind (appS 8 s1 ([x29]:List Int)) fun x32=>
  some (x32:(List Int))
 else
  Option.bind (appS 8 s1 ([(-1)]:List Int)) fun x35=>
  some (x35:(List Int))) fun q4=>
 some (.inr (.inr (q4:(List Int))))
def s_l6Part (p0:Parity) (p1:Answer) (p2:Int):Option ((List Int)):=
 Option.bind (cntM (s_l6Part_b0 p0 p1 p2) p1.Plan.length 0 (([]:List Int):(List Int))) fun q2=>
 aft (fun r=>some r) (fun s3=>
  some (s3:(List Int))) q2
def s_l5Plan_b0 (p0:Arena) (p1:Int) (p2:(List Int)) (v7:Int) (s1:Unit):Option (Bool⊕((Unit)⊕(Unit))):=
 Option.bind (idx p2 v7) fun x22=>
 Option.bind (bif (x22 !=(-1)) then
 Option.bind (idx p0.Owner v7) fun x29=>
 Option.bind (bif (x29 !=p1) then
 some true
 else
 Option.bind (idx p2 v7) fun x41=>
 Option.bind (idx p0.Next v7) fun x37=>
 Option.bind (s_l1Has x37 x41) fun x43=>
 some (!x43)) fun p45=>
 some p45
 else
 some false) fun p46=>
 bif p46 then
  some (.inl (false:Bool))
 else
  some (.inr (.inr ()))
def s_l5Plan (p0:Arena) (p1:Int) (p2:(List Int)):Option (Bool):=
 bif ((p2.length:Int) !=(p0.Owner.length:Int)) then
  some (false:Bool)
 else
  Option.bind (cntM (s_l5Plan_b0 p0 p1 p2) p2.length 0 ()) fun q2=>
  aft (fun r=>some r) (fun s3=>
   some (true:Bool)) q2
def s_PlanOk (p0:Arena) (p1:Int) (p2:(List Int)):Option (Bool):=
 Option.bind (s_ArenaOk p0) fun x8=>
 Option.bind (bif x8 then
 Option.bind (s_l1In p1 0 1) fun x11=>
 some x11
 else
 some false) fun p12=>
 Option.bind (bif p12 then
 Option.bind (s_l5Plan p0 p1 p2) fun x17=>
 some x17
 else
 some false) fun p18=>
 some (p18:Bool)
def s_l4Set (p0:Parity) (p1:(List Int)):Option (Bool):=
 Option.bind (s_l1Set p1 (p0.Prio.length:Int)) fun x9=>
 some (x9:Bool)
def s_l6Right (p0:Parity) (p1:Int) (p2:(List Int)) (p3:(List Int)):Option (Bool):=
 Option.bind (s_ParityOk p0) fun x10=>
 Option.bind (bif x10 then
 Option.bind (s_PlanOk p0.Arena p1 p3) fun x16=>
 some x16
 else
 some false) fun p17=>
 Option.bind (bif p17 then
 Option.bind (s_l4Set p0 p2) fun x21=>
 some x21
 else
 some false) fun p22=>
 some (p22:Bool)
def s_l6Edges_b0 (p0:Arena) (p1:(List Int)) (v6:Int) (s1:(List (List Int))):Option ((List (List Int))⊕(((List (List Int)))⊕((List (List Int))))):=
 Option.bind (idx p1 v6) fun x17=>
 Option.bind (bif decide (0≤x17) then
  Option.bind (idx p1 v6) fun x23=>
  Option.bind (appS 24 s1 ([([x23]:List Int)]:List (List Int))) fun x27=>
  some (x27:(List (List Int)))
 else
  Option.bind (idx p0.Next v6) fun x32=>
  Option.bind (appS 24 s1 ([x32]:List (List Int))) fun x35=>
  some (x35:(List (List Int)))) fun q4=>
 some (.inr (.inr (q4:(List (List Int)))))
def s_l6Edges (p0:Arena) (p1:(List Int)):Option ((List (List Int))):=
 Option.bind (cntM (s_l6Edges_b0 p0 p1) p0.Next.length 0 (([]:List (List Int)):(List (List Int)))) fun q2=>
 aft (fun r=>some r) (fun s3=>
  some (s3:(List (List Int)))) q2
def s_l1Beyond_b2 (p0:(List (List Int))) (p1:(List Bool)) (x24:Int) (s4:(List Int)×Int×(List Bool)):Option ((List Bool)⊕(((List Int)×Int×(List Bool))⊕((List Int)×Int×(List Bool)))):=
 Option.bind (idx p0 x24) fun x34=>
 bif decide (s4.2.1<(x34.length:Int)) then
  Option.bind (idx p0 x24) fun x42=>
  Option.bind (idx x42 s4.2.1) fun x45=>
  Option.bind (idx p1 x45) fun x49=>
  Option.bind (bif x49 then
  Option.bind (idx s4.2.2 x45) fun x54=>
  some (!x54)
  else
  some false) fun p57=>
  Option.bind (bif p57 then
   Option.bind (idx s4.2.2 x45) fun x60=>
   Option.bind (setI s4.2.2 x45 true) fun y391=>
   Option.bind (appS 8 s4.1 ([x45]:List Int)) fun x64=>
   some ((x64:(List Int)),(y391:(List Bool)))
  else
   some ((s4.1:(List Int)),(s4.2.2:(List Bool)))) fun q7=>
  some (.inr (.inr ((q7.1:(List Int)),((IntKind.i64.wrap (s4.2.1+1)):Int),(q7.2:(List Bool)))))
 else
  some (.inr (.inl ((s4.1:(List Int)),(s4.2.1:Int),(s4.2.2:(List Bool)))))
def s_l1Beyond_b0 (p0:(List (List Int))) (p1:(List Bool)) (s1:(List Int)×(List Bool)):Option ((List Bool)⊕(((List Int)×(List Bool))⊕((List Int)×(List Bool)))):=
 bif decide (0<(s1.1.length:Int)) then
  Option.bind (idx s1.1 (IntKind.i64.wrap ((s1.1.length:Int)-1))) fun x24=>
  Option.bind (subS s1.1 0 (IntKind.i64.wrap ((s1.1.length:Int)-1))) fun x30=>
  Option.bind (whileM (s_l1Beyond_b2 p0 p1 x24) (2 ^ 64) ((x30:(List Int)),(0:Int),(s1.2:(List Bool)))) fun q5=>
  aft (fun r=>some (.inl r)) (fun s6=>
   some (.inr (.inr ((s6.1:(List Int)),(s6.2.2:(List Bool)))))) q5
 else
  some (.inr (.inl ((s1.1:(List Int)),(s1.2:(List Bool)))))
def s_l1Beyond (p0:(List (List Int))) (p1:(List Bool)) (p2:(List Int)):Option ((List Bool)):=
 Option.bind (mkS 1 (p0.length:Int) (false:Bool)) fun x14=>
 Option.bind (s_l1Copy p2) fun x16=>
 Option.bind (whileM (s_l1Beyond_b0 p0 p1) (2 ^ 64) ((x16:(List Int)),(x14:(List Bool)))) fun q2=>
 aft (fun r=>some r) (fun s3=>
  some (s3.2:(List Bool))) q2
def s_BadLoops_b2 (p0:Parity) (p2:(List Int)) (x35:Int) (v14:Int) (s4:(List Bool)):Option ((List Int)⊕(((List Bool))⊕((List Bool)))):=
 Option.bind (idx p2 v14) fun x58=>
 Option.bind (idx p2 v14) fun x64=>
 Option.bind (idx p0.Prio x64) fun x66=>
 Option.bind (idx p0.Prio x35) fun x71=>
 Option.bind (idx s4 x58) fun x74=>
 Option.bind (setI s4 x58 (decide (x66≤x71))) fun y386=>
 some (.inr (.inr (y386:(List Bool))))
def s_BadLoops_b0 (p0:Parity) (p1:Int) (p2:(List Int)) (x26:(List (List Int))) (v11:Int) (s1:(List Int)):Option ((List Int)⊕(((List Int))⊕((List Int)))):=
 Option.bind (idx p2 v11) fun x35=>
 Option.bind (idx p0.Prio x35) fun x40=>
 bif ((Int.tmod x40 2)==p1) then
  some (.inr (.inr (s1:(List Int))))
 else
  Option.bind (mkS 1 (p0.Prio.length:Int) (false:Bool)) fun x48=>
  Option.bind (cntM (s_BadLoops_b2 p0 p2 x35) p2.length 0 (x48:(List Bool))) fun q5=>
  aft (fun r=>some (.inl r)) (fun s6=>
   Option.bind (s_l1Beyond x26 s6 ([x35]:List Int)) fun x79=>
   Option.bind (idx x79 x35) fun x81=>
   Option.bind (bif x81 then
    Option.bind (appS 8 s1 ([x35]:List Int)) fun x86=>
    some (x86:(List Int))
   else
    some (s1:(List Int))) fun q7=>
   some (.inr (.inr (q7:(List Int))))) q5
def s_BadLoops (p0:Parity) (p1:Int) (p2:(List Int)) (p3:(List Int)):Option ((List Int)):=
 Option.bind (s_l6Right p0 p1 p2 p3) fun x20=>
 bif (!x20) then
  some (([]:List Int):(List Int))
 else
  Option.bind (s_l6Edges p0.Arena p3) fun x26=>
  Option.bind (cntM (s_BadLoops_b0 p0 p1 p2 x26) p2.length 0 (([]:List Int):(List Int))) fun q2=>
  aft (fun r=>some r) (fun s3=>
   some (s3:(List Int))) q2
def s_CleanIn (p0:Parity) (p1:Int) (p2:(List Int)) (p3:(List Int)):Option (Bool):=
 Option.bind (s_l6Right p0 p1 p2 p3) fun x13=>
 Option.bind (bif x13 then
 Option.bind (s_BadLoops p0 p1 p2 p3) fun x19=>
 some ((x19.length:Int)==0)
 else
 some false) fun p22=>
 some (p22:Bool)
def s_l1Marks_b0 (p0:(List Int)) (v6:Int) (s1:(List Bool)):Option ((List Bool)⊕(((List Bool))⊕((List Bool)))):=
 Option.bind (idx p0 v6) fun x18=>
 Option.bind (idx s1 x18) fun x20=>
 Option.bind (setI s1 x18 true) fun y399=>
 some (.inr (.inr (y399:(List Bool))))
def s_l1Marks (p0:(List Int)) (p1:Int):Option ((List Bool)):=
 Option.bind (mkS 1 p1 (false:Bool)) fun x8=>
 Option.bind (cntM (s_l1Marks_b0 p0) p0.length 0 (x8:(List Bool))) fun q2=>
 aft (fun r=>some r) (fun s3=>
  some (s3:(List Bool))) q2
def s_ClosedIn_b2 (p0:Arena) (x30:(List Bool)) (x39:Int) (s4:Int):Option (Bool⊕((Int)⊕(Int))):=
 Option.bind (idx p0.Next x39) fun x67=>
 bif decide (s4<(x67.length:Int)) then
  Option.bind (idx p0.Next x39) fun x77=>
  Option.bind (idx x77 s4) fun x80=>
  Option.bind (idx x30 x80) fun x82=>
  bif (!x82) then
   some (.inl (false:Bool))
  else
   some (.inr (.inr ((IntKind.i64.wrap (s4+1)):Int)))
 else
  some (.inr (.inl (s4:Int)))
def s_ClosedIn_b0 (p0:Arena) (p1:Int) (p2:(List Int)) (p3:(List Int)) (x30:(List Bool)) (v10:Int) (s1:Unit):Option (Bool⊕((Unit)⊕(Unit))):=
 Option.bind (idx p2 v10) fun x39=>
 Option.bind (idx p0.Owner x39) fun x44=>
 bif (x44==p1) then
  Option.bind (idx p3 x39) fun x50=>
  Option.bind (bif decide (x50<0) then
  some true
  else
  Option.bind (idx p3 x39) fun x57=>
  Option.bind (idx x30 x57) fun x59=>
  some (!x59)) fun p62=>
  bif p62 then
   some (.inl (false:Bool))
  else
   some (.inr (.inr ()))
 else
  Option.bind (whileM (s_ClosedIn_b2 p0 x30 x39) (2 ^ 64) (0:Int)) fun q5=>
  aft (fun r=>some (.inl r)) (fun s6=>
   some (.inr (.inr ()))) q5
def s_ClosedIn (p0:Arena) (p1:Int) (p2:(List Int)) (p3:(List Int)):Option (Bool):=
 Option.bind (s_PlanOk p0 p1 p3) fun x16=>
 Option.bind (bif (!x16) then
 some true
 else
 Option.bind (s_l1Set p2 (p0.Owner.length:Int)) fun x23=>
 some (!x23)) fun p25=>
 bif p25 then
  some (false:Bool)
 else
  Option.bind (s_l1Marks p2 (p0.Owner.length:Int)) fun x30=>
  Option.bind (cntM (s_ClosedIn_b0 p0 p1 p2 p3 x30) p2.length 0 ()) fun q2=>
  aft (fun r=>some r) (fun s3=>
   some (true:Bool)) q2
def s_WinsBy (p0:Parity) (p1:Int) (p2:(List Int)) (p3:(List Int)):Option (Bool):=
 Option.bind (s_CleanIn p0 p1 p2 p3) fun x13=>
 Option.bind (bif x13 then
 Option.bind (s_ClosedIn p0.Arena p1 p2 p3) fun x20=>
 some x20
 else
 some false) fun p21=>
 some (p21:Bool)
def s_AnswerOk (p0:Parity) (p1:Answer):Option (Bool):=
 Option.bind (s_l6Form p0 p1) fun x7=>
 bif (!x7) then
  some (false:Bool)
 else
  Option.bind (s_RegionOf p1 0) fun x11=>
  Option.bind (s_l6Part p0 p1 0) fun x14=>
  Option.bind (s_WinsBy p0 0 x11 x14) fun x15=>
  Option.bind (bif x15 then
  Option.bind (s_RegionOf p1 1) fun x19=>
  Option.bind (s_l6Part p0 p1 1) fun x22=>
  Option.bind (s_WinsBy p0 1 x19 x22) fun x23=>
  some x23
  else
  some false) fun p24=>
  some (p24:Bool)
def l_likeInts_b0 (p0:(List Int)) (p1:(List Int)) (v5:Int) (s1:Unit):Option (Bool⊕((Unit)⊕(Unit))):=
 Option.bind (idx p0 v5) fun x19=>
 Option.bind (idx p1 v5) fun x23=>
 bif (x19 !=x23) then
  some (.inl (false:Bool))
 else
  some (.inr (.inr ()))
def l_likeInts (p0:(List Int)) (p1:(List Int)):Option (Bool):=
 bif ((p0.length:Int) !=(p1.length:Int)) then
  some (false:Bool)
 else
  Option.bind (cntM (l_likeInts_b0 p0 p1) p0.length 0 ()) fun q2=>
  aft (fun r=>some r) (fun s3=>
   some (true:Bool)) q2
def s_SetOk (p0:(List Int)) (p1:Int):Option (Bool):=
 Option.bind (s_l1In p1 0 256) fun x6=>
 Option.bind (bif x6 then
 Option.bind (s_l1Set p0 p1) fun x10=>
 some x10
 else
 some false) fun p11=>
 some (p11:Bool)
def s_l2Both (p0:(List Int)) (p1:(List Int)):Option (Bool):=
 Option.bind (s_SetOk p0 256) fun x6=>
 Option.bind (bif x6 then
 Option.bind (s_SetOk p1 256) fun x9=>
 some x9
 else
 some false) fun p10=>
 some (p10:Bool)
def s_LessOf_b0 (p0:(List Int)) (p1:(List Int)) (v6:Int) (s1:(List Int)):Option ((List Int)⊕(((List Int))⊕((List Int)))):=
 Option.bind (idx p0 v6) fun x22=>
 Option.bind (s_l1Has p1 x22) fun x24=>
 Option.bind (bif (!x24) then
  Option.bind (idx p0 v6) fun x29=>
  Option.bind (appS 8 s1 ([x29]:List Int)) fun x32=>
  some (x32:(List Int))
 else
  some (s1:(List Int))) fun q4=>
 some (.inr (.inr (q4:(List Int))))
def s_LessOf (p0:(List Int)) (p1:(List Int)):Option ((List Int)):=
 Option.bind (s_l2Both p0 p1) fun x10=>
 bif (!x10) then
  some (([]:List Int):(List Int))
 else
  Option.bind (cntM (s_LessOf_b0 p0 p1) p0.length 0 (([]:List Int):(List Int))) fun q2=>
  aft (fun r=>some r) (fun s3=>
   some (s3:(List Int))) q2
def s_PartIn (p0:(List Int)) (p1:(List Int)):Option (Bool):=
 Option.bind (s_l2Both p0 p1) fun x7=>
 Option.bind (bif x7 then
 Option.bind (s_LessOf p0 p1) fun x11=>
 some ((x11.length:Int)==0)
 else
 some false) fun p14=>
 some (p14:Bool)
def l_w6Has_b0 (p0:(List Int)) (p1:Int) (v5:Int) (s1:Unit):Option (Bool⊕((Unit)⊕(Unit))):=
 Option.bind (idx p0 v5) fun x14=>
 bif (x14==p1) then
  some (.inl (true:Bool))
 else
  some (.inr (.inr ()))
def l_w6Has (p0:(List Int)) (p1:Int):Option (Bool):=
 Option.bind (cntM (l_w6Has_b0 p0 p1) p0.length 0 ()) fun q2=>
 aft (fun r=>some r) (fun s3=>
  some (false:Bool)) q2
def l_FnEdit_b0 (x79:Answer) (x92:(List Int)) (x94:Answer) (v19:Int) (s1:Unit):Option (Bool⊕((Unit)⊕(Unit))):=
 Option.bind (idx x79.Won v19) fun x127=>
 Option.bind (idx x94.Won v19) fun x132=>
 Option.bind (l_w6Has x92 v19) fun x137=>
 bif ((x127 !=x132) !=x137) then
  some (.inl (false:Bool))
 else
  some (.inr (.inr ()))
def l_FnEdit (p0:(List Int)):Option (Bool):=
 Option.bind (l_big p0) fun x21=>
 bif x21 then
  some (true:Bool)
 else
  Option.bind (s_DrawEdited p0) fun x24=>
  Option.bind (i_Edited x24.1 x24.2) fun x30=>
  Option.bind (s_Edited x24.1 x24.2) fun x36=>
  bif (x30.2 !=x36.2) then
   some (false:Bool)
  else
   bif (!x36.2) then
    some (((x30.1.Prio.length:Int)==0):Bool)
   else
    Option.bind (i_UndoneBy x24.1 x24.2) fun x51=>
    Option.bind (i_Edited x30.1 x51.1) fun x57=>
    Option.bind (s_SameParity x30.1 x36.1) fun x62=>
    Option.bind (bif (!x62) then
    some true
    else
    some (!x51.2)) fun p67=>
    Option.bind (bif p67 then
    some true
    else
    some (!x57.2)) fun p71=>
    Option.bind (bif p71 then
    some true
    else
    Option.bind (s_SameParity x57.1 x24.1) fun x75=>
    some (!x75)) fun p77=>
    bif p77 then
     some (false:Bool)
    else
     Option.bind (s_Solved x24.1) fun x79=>
     Option.bind (i_ResolvedBy x24.1 x79 x24.2) fun x84=>
     Option.bind (i_TouchedBy x24.1 x24.2) fun x89=>
     Option.bind (i_TurnedBy x24.1 x24.2) fun x92=>
     Option.bind (s_Solved x36.1) fun x94=>
     Option.bind (bif (!x84.2) then
     some true
     else
     Option.bind (s_AnswerOk x36.1 x84.1) fun x100=>
     some (!x100)) fun p102=>
     Option.bind (bif p102 then
     some true
     else
     Option.bind (l_likeInts x84.1.Won x94.Won) fun x108=>
     some (!x108)) fun p110=>
     Option.bind (bif p110 then
     some true
     else
     Option.bind (s_PartIn x92 x89) fun x114=>
     some (!x114)) fun p116=>
     bif p116 then
      some (false:Bool)
     else
      Option.bind (cntM (l_FnEdit_b0 x79 x92 x94) x94.Won.length 0 ()) fun q2=>
      aft (fun r=>some r) (fun s3=>
       some (true:Bool)) q2
def s_l16Before_b4 (p0:Arena) (v7:Int) (s7:Bool×Int×(List Bool)):Option ((List Bool)⊕((Bool×Int×(List Bool))⊕(Bool×Int×(List Bool)))):=
 Option.bind (idx p0.Next v7) fun x24=>
 Option.bind (bif decide (s7.2.1<(x24.length:Int)) then
 Option.bind (idx s7.2.2 v7) fun x31=>
 some (!x31)
 else
 some false) fun p34=>
 bif p34 then
  Option.bind (idx p0.Next v7) fun x41=>
  Option.bind (idx x41 s7.2.1) fun x44=>
  Option.bind (idx s7.2.2 x44) fun x46=>
  Option.bind (bif x46 then
   Option.bind (idx s7.2.2 v7) fun x50=>
   Option.bind (setI s7.2.2 v7 true) fun y450=>
   some ((true:Bool),(y450:(List Bool)))
  else
   some ((s7.1:Bool),(s7.2.2:(List Bool)))) fun q10=>
  some (.inr (.inr ((q10.1:Bool),((IntKind.i64.wrap (s7.2.1+1)):Int),(q10.2:(List Bool)))))
 else
  some (.inr (.inl ((s7.1:Bool),(s7.2.1:Int),(s7.2.2:(List Bool)))))
def s_l16Before_b2 (p0:Arena) (v7:Int) (s4:Bool×(List Bool)):Option ((List Bool)⊕((Bool×(List Bool))⊕(Bool×(List Bool)))):=
 Option.bind (whileM (s_l16Before_b4 p0 v7) (2 ^ 64) ((s4.1:Bool),(0:Int),(s4.2:(List Bool)))) fun q8=>
 aft (fun r=>some (.inl r)) (fun s9=>
  some (.inr (.inr ((s9.1:Bool),(s9.2.2:(List Bool)))))) q8
def s_l16Before_b0 (p0:Arena) (s1:Bool×(List Bool)):Option ((List Bool)⊕((Bool×(List Bool))⊕(Bool×(List Bool)))):=
 bif s1.1 then
  Option.bind (cntM (s_l16Before_b2 p0) p0.Next.length 0 ((false:Bool),(s1.2:(List Bool)))) fun q5=>
  aft (fun r=>some (.inl r)) (fun s6=>
   some (.inr (.inr ((s6.1:Bool),(s6.2:(List Bool)))))) q5
 else
  some (.inr (.inl ((false:Bool),(s1.2:(List Bool)))))
def s_l16Before (p0:Arena) (p1:(List Bool)):Option ((List Bool)):=
 Option.bind (appS 1 ([]:List Bool) p1) fun x11=>
 Option.bind (whileM (s_l16Before_b0 p0) (2 ^ 64) ((true:Bool),(x11:(List Bool)))) fun q2=>
 aft (fun r=>some r) (fun s3=>
  some (s3.2:(List Bool))) q2
def s_l32Touched (p0:Parity) (p1:Edit):Option ((List Bool)):=
 Option.bind (mkS 1 (p0.Prio.length:Int) (false:Bool)) fun x9=>
 Option.bind (idx x9 p1.V) fun x13=>
 Option.bind (setI x9 p1.V true) fun y447=>
 Option.bind (s_l16Before p0.Arena y447) fun x17=>
 some (x17:(List Bool))
def s_ResolvedBy_b0 (p1:Answer) (x25:(List Bool)) (x29:Answer) (v11:Int) (s1:(List Int)×(List Int)):Option ((Answer×Bool)⊕(((List Int)×(List Int))⊕((List Int)×(List Int)))):=
 Option.bind (idx x25 v11) fun x39=>
 Option.bind (bif x39 then
  Option.bind (idx x29.Won v11) fun x46=>
  Option.bind (appS 8 s1.1 ([x46]:List Int)) fun x49=>
  Option.bind (idx x29.Plan v11) fun x56=>
  Option.bind (appS 8 s1.2 ([x56]:List Int)) fun x59=>
  some ((x49:(List Int)),(x59:(List Int)))
 else
  Option.bind (idx p1.Won v11) fun x66=>
  Option.bind (appS 8 s1.1 ([x66]:List Int)) fun x69=>
  Option.bind (idx p1.Plan v11) fun x76=>
  Option.bind (appS 8 s1.2 ([x76]:List Int)) fun x79=>
  some ((x69:(List Int)),(x79:(List Int)))) fun q4=>
 some (.inr (.inr ((q4.1:(List Int)),(q4.2:(List Int)))))
def s_ResolvedBy (p0:Parity) (p1:Answer) (p2:Edit):Option (Answer×Bool):=
 Option.bind (s_EditOk p0 p2) fun x14=>
 Option.bind (bif (!x14) then
 some true
 else
 Option.bind (s_AnswerOk p0 p1) fun x19=>
 some (!x19)) fun p21=>
 bif p21 then
  some (((⟨([]:List Int),([]:List Int)⟩:Answer):Answer),(false:Bool))
 else
  Option.bind (s_l32Touched p0 p2) fun x25=>
  Option.bind (s_l32Do p0 p2) fun x28=>
  Option.bind (s_Solved x28) fun x29=>
  Option.bind (cntM (s_ResolvedBy_b0 p1 x25 x29) x25.length 0 ((([]:List Int):(List Int)),(([]:List Int):(List Int)))) fun q2=>
  aft (fun r=>some r) (fun s3=>
   some (((⟨s3.1,s3.2⟩:Answer):Answer),(true:Bool))) q2
end Go.Proofs.YtmiilifclnanlaaGreat
