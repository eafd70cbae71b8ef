/- The structs opened; the sizes, the copies, the comparisons: plain laws. By program. -/
import Derived.Test.YtldlmopdhmaceaaGreatDoorFnsMBE
import Derived.Test.YtldlmopdhmaceaaGreatDoorLawBE
set_option linter.unusedVariables false
set_option linter.unusedSimpArgs false
open List renaming mem_of_getElem? → FI
open Option renaming bind_some → GA
namespace Go.Proofs.YtldlmopdhmaceaaGreatDoor
open Go Go.Wk Go.Proofs
set_option maxRecDepth 100000
def Clause.ok (x:Clause):Prop:=I64 x.Kind/\(okS I64) x.A/\(okS I64) x.B
def Clause.bd (x:Clause):Prop:=True/\(List.length x.A<=1048576/\∀a∈x.A,True)/\(List.length x.B<=1048576/\∀a∈x.B,True)
theorem dP {p0:VC}{c1_0:Sig}(g:Clause->Bool) (c:∀a∈p0,fR a c1_0=some (g a)):cw p0 c1_0=some (match p0.findIdx? g with | some i=>(i:Int) | none=> -1):=by
 unfold cw
 rw[gE (f:=cq p0 c1_0) g (λi=>(i:Int)) (xs:=p0) (λi a b=>by
  unfold cq
  rw[bT,b,GA,c a (FI b),GA]
  cases g a <;> rfl),GA]
 cases p0.findIdx? g <;> rfl
theorem dG {p0:VC}{c1_0:Sig}(g:Clause->Bool) (b:∀a∈p0,fR a c1_0=some (g a)):co p0 c1_0=some (p0.any g):=by
 unfold co
 rw[dP g b,GA]
 exact congrArg some (oe g p0)
theorem iI (p0:VI) (p1:Int):cS p0 p1=some (match p0.findIdx? (λa=>p1==a) with | some i=>(i:Int) | none=> -1):=by
 unfold cS
 rw[gE (f:=dL p0 p1) (λa=>p1==a) (λi=>(i:Int)) (xs:=p0) (λi a b=>by
  unfold dL
  simp only[bT,b,GA]
  cases p1==a <;> rfl),GA]
 cases p0.findIdx? (λa=>p1==a) <;> rfl
theorem cP (p0:VI) (p1:Int):ca p0 p1=some (p0.any (λa=>p1==a)):=by
 unfold ca
 rw[iI,GA]
 exact congrArg some (oe _ p0)
theorem eU {p0:VI}{c1_0:Int}(g:Int->Bool) (c:∀a∈p0,fS a c1_0=some (g a)):cJ p0 c1_0=some (match p0.findIdx? g with | some i=>(i:Int) | none=> -1):=by
 unfold cJ
 rw[gE (f:=cE p0 c1_0) g (λi=>(i:Int)) (xs:=p0) (λi a b=>by
  unfold cE
  rw[bT,b,GA,c a (FI b),GA]
  cases g a <;> rfl),GA]
 cases p0.findIdx? g <;> rfl
theorem eA {p0:VI}{c1_0:Int}(g:Int->Bool) (b:∀a∈p0,fS a c1_0=some (g a)):cD p0 c1_0=some (p0.any g):=by
 unfold cD
 rw[eU g b,GA]
 exact congrArg some (oe g p0)
theorem eR (p0 p1:VI):dm p0 p1=some (decide (p0=p1)):=by
 unfold dm
 rw[Ea]
 by_cases h:p0.length=p1.length
 .simp only[h,decide_true,Bool.not_true,cond_false]
  rw[show p1.length=p0.length from h.symm,zM (f:=dK p0 p1) (r:=false) (λb c=>decide (b=c)) h (λi b c e g=>by
   unfold dK
   rw[bT,e,GA,bT,g,GA]
   by_cases a:b=c
   .subst a;simp
   .have d:(b==c)=false:=by simp[a]
    simp[bne,d,a]),qf h]
  by_cases a:p0=p1
  .simp[a,aft]
  .simp[a,aft]
 .have:¬(p0=p1):=λa=>h (by rw[a])
  simp[h,this]
theorem ek {p0:VL}{c1_0:Int}{b:VI}(g:Place->Bool) (d:∀a∈p0,lS a c1_0 b=some (g a)):cC p0 c1_0 b=some (match p0.findIdx? g with | some i=>(i:Int) | none=> -1):=by
 unfold cC
 rw[gE (f:=cz p0 c1_0 b) g (λi=>(i:Int)) (xs:=p0) (λi a c=>by
  unfold cz
  rw[bT,c,GA,d a (FI c),GA]
  cases g a <;> rfl),GA]
 cases p0.findIdx? g <;> rfl
theorem fi {p0:VI}{c1_0:VL}{b:Int}(g:Int->Bool) (d:∀a∈p0,jM a c1_0 b=some (g a)):cB p0 c1_0 b=some (match p0.findIdx? g with | some i=>(i:Int) | none=> -1):=by
 unfold cB
 rw[gE (f:=cH p0 c1_0 b) g (λi=>(i:Int)) (xs:=p0) (λi a c=>by
  unfold cH
  rw[bT,c,GA,d a (FI c),GA]
  cases g a <;> rfl),GA]
 cases p0.findIdx? g <;> rfl
theorem fg {p0:VI}{c1_0:VL}{b:Int}{c:Int}{c1_3:Sig}{d:Int}(g:Int->Bool) (j:∀a∈p0,jH a c1_0 b c c1_3 d=some (g a)):cA p0 c1_0 b c c1_3 d=some (match p0.findIdx? g with | some i=>(i:Int) | none=> -1):=by
 unfold cA
 rw[gE (f:=cG p0 c1_0 b c c1_3 d) g (λi=>(i:Int)) (xs:=p0) (λi a e=>by
  unfold cG
  rw[bT,e,GA,j a (FI e),GA]
  cases g a <;> rfl),GA]
 cases p0.findIdx? g <;> rfl
end Go.Proofs.YtldlmopdhmaceaaGreatDoor
