/- The structs opened; the sizes, the copies, the comparisons: plain laws. By program. -/
import Derived.Test.YtfombamjdkihnaaGreatFnsMEI
import Derived.Test.YtfombamjdkihnaaGreatLawEI
set_option linter.unusedVariables false
set_option linter.unusedSimpArgs false
open List renaming mem_of_getElem? → EF
open Option renaming bind_some → Fz
namespace Go.Proofs.YtfombamjdkihnaaGreat
open Go Go.Wk Go.Proofs
set_option maxRecDepth 100000
def Clause.ok (x:Clause):Prop:=I64 x.Kind/\(okS I64) x.A/\(okS I64) x.B
def Clause.bd (x:Clause):Prop:=True/\(List.length x.A<=1048576/\∀a∈x.A,True)/\(List.length x.B<=1048576/\∀a∈x.B,True)
theorem dQ {p0:VC}{c1_0:Sig}(g:Clause->Bool) (c:∀a∈p0,fL a c1_0=some (g a)):ca p0 c1_0=some (match p0.findIdx? g with | some i=>(i:Int) | none=> -1):=by
 unfold ca
 rw[eH (f:=bZ p0 c1_0) g (λi=>(i:Int)) (xs:=p0) (λi a b=>by
  unfold bZ
  rw[bH,b,Fz,c a (EF b),Fz]
  cases g a <;> rfl),Fz]
 cases p0.findIdx? g <;> rfl
theorem dJ {p0:VC}{c1_0:Sig}(g:Clause->Bool) (b:∀a∈p0,fL a c1_0=some (g a)):bY p0 c1_0=some (p0.any g):=by
 unfold bY
 rw[dQ g b,Fz]
 exact congrArg some (ou g p0)
theorem iw (p0:VI) (p1:Int):cH p0 p1=some (match p0.findIdx? (λa=>p1==a) with | some i=>(i:Int) | none=> -1):=by
 unfold cH
 rw[eH (f:=dM p0 p1) (λa=>p1==a) (λi=>(i:Int)) (xs:=p0) (λi a b=>by
  unfold dM
  simp only[bH,b,Fz]
  cases p1==a <;> rfl),Fz]
 cases p0.findIdx? (λa=>p1==a) <;> rfl
theorem cU (p0:VI) (p1:Int):bP p0 p1=some (p0.any (λa=>p1==a)):=by
 unfold bP
 rw[iw,Fz]
 exact congrArg some (ou _ p0)
theorem nc (p0 p1:VI):ez p0 p1=some (decide (p0=p1)):=by
 unfold ez
 rw[CV]
 by_cases h:p0.length=p1.length
 .simp only[h,decide_true,Bool.not_true,cond_false]
  rw[show p1.length=p0.length from h.symm,zi (f:=dL p0 p1) (r:=false) (λb c=>decide (b=c)) h (λi b c e g=>by
   unfold dL
   rw[bH,e,Fz,bH,g,Fz]
   by_cases a:b=c
   .subst a;simp
   .have d:(b==c)=false:=by simp[a]
    simp[bne,d,a]),qm h]
  by_cases a:p0=p1
  .simp[a,aft]
  .simp[a,aft]
 .have:¬(p0=p1):=λa=>h (by rw[a])
  simp[h,this]
theorem eh {p0:VL}{c1_0:Int}{b:VI}(g:Place->Bool) (d:∀a∈p0,lW a c1_0 b=some (g a)):cj p0 c1_0 b=some (match p0.findIdx? g with | some i=>(i:Int) | none=> -1):=by
 unfold cj
 rw[eH (f:=cc p0 c1_0 b) g (λi=>(i:Int)) (xs:=p0) (λi a c=>by
  unfold cc
  rw[bH,c,Fz,d a (EF c),Fz]
  cases g a <;> rfl),Fz]
 cases p0.findIdx? g <;> rfl
theorem ff {p0:VI}{c1_0:VL}{b:Int}(g:Int->Bool) (d:∀a∈p0,jF a c1_0 b=some (g a)):cg p0 c1_0 b=some (match p0.findIdx? g with | some i=>(i:Int) | none=> -1):=by
 unfold cg
 rw[eH (f:=cw p0 c1_0 b) g (λi=>(i:Int)) (xs:=p0) (λi a c=>by
  unfold cw
  rw[bH,c,Fz,d a (EF c),Fz]
  cases g a <;> rfl),Fz]
 cases p0.findIdx? g <;> rfl
theorem fc {p0:VI}{c1_0:VL}{b:Int}{c:Int}{c1_3:Sig}{d:Int}(g:Int->Bool) (j:∀a∈p0,jz a c1_0 b c c1_3 d=some (g a)):cd p0 c1_0 b c c1_3 d=some (match p0.findIdx? g with | some i=>(i:Int) | none=> -1):=by
 unfold cd
 rw[eH (f:=cv p0 c1_0 b c c1_3 d) g (λi=>(i:Int)) (xs:=p0) (λi a e=>by
  unfold cv
  rw[bH,e,Fz,j a (EF e),Fz]
  cases g a <;> rfl),Fz]
 cases p0.findIdx? g <;> rfl
theorem eT {p0:VI}{c1_0:Int}(g:Int->Bool) (c:∀a∈p0,fN a c1_0=some (g a)):cC p0 c1_0=some (match p0.findIdx? g with | some i=>(i:Int) | none=> -1):=by
 unfold cC
 rw[eH (f:=co p0 c1_0) g (λi=>(i:Int)) (xs:=p0) (λi a b=>by
  unfold co
  rw[bH,b,Fz,c a (EF b),Fz]
  cases g a <;> rfl),Fz]
 cases p0.findIdx? g <;> rfl
theorem eE {p0:VI}{c1_0:Int}(g:Int->Bool) (b:∀a∈p0,fN a c1_0=some (g a)):cn p0 c1_0=some (p0.any g):=by
 unfold cn
 rw[eT g b,Fz]
 exact congrArg some (ou g p0)
end Go.Proofs.YtfombamjdkihnaaGreat
