/- The structs opened; the sizes, the copies, the comparisons: plain laws. By program. -/
import Derived.Test.YtpcjbkgbnoocaaaFnsMFR
import Derived.Test.YtpcjbkgbnoocaaaLawFR
set_option linter.unusedVariables false
set_option linter.unusedSimpArgs false
open Option renaming bind_some → bt
namespace Go.Proofs.Ytpcjbkgbnoocaaa
open Go Go.Wk Go.Proofs
set_option maxRecDepth 100000
def Clause.ok (x:Clause):Prop:=I64 x.Kind/\(okS I64) x.A/\(okS I64) x.B
def Clause.bd (x:Clause):Prop:=True/\(List.length x.A<=1048576/\∀y0∈x.A,True)/\(List.length x.B<=1048576/\∀y0∈x.B,True)
theorem dN {p0:(List Int)}{c1_0:Int}(g:Int->Bool) (hp:∀x∈p0,dA x c1_0=some (g x)):bQ p0 c1_0=some (match p0.findIdx? g with | some i=>(i:Int) | none=> -1):=by
 unfold bQ
 rw[ee (f:=bM p0 c1_0) g (λi=>(i:Int)) (xs:=p0) (λi x hx=>by
  unfold bM
  rw[bC,hx,bt,hp x (List.mem_of_getElem? hx),bt]
  cases g x <;> rfl),bt]
 cases p0.findIdx? g <;> rfl
theorem dk {p0:(List Int)}{c1_0:Int}(g:Int->Bool) (hp:∀x∈p0,dA x c1_0=some (g x)):bL p0 c1_0=some (p0.any g):=by
 unfold bL
 rw[dN g hp,bt]
 exact congrArg some (kQ g p0)
theorem dz (p0 p1:List Int):cj p0 p1=some (decide (p0=p1)):=by
 unfold cj
 rw[uJ]
 by_cases h:p0.length=p1.length
 · simp only[h,decide_true,Bool.not_true,cond_false]
   rw[show p1.length=p0.length from h.symm,oX (f:=cv p0 p1) (r:=false) (λx y=>decide (x=y)) h (λi x y hx hy=>by
    unfold cv
    rw[bC,hx,bt,bC,hy,bt]
    by_cases e:x=y
    · subst e;simp
    · have e':(x==y)=false:=by simp[e]
      simp[bne,e',e]),kl h]
   by_cases e:p0=p1
   · simp[e,aft]
   · simp[e,aft]
 · have:¬(p0=p1):=λe=>h (by rw[e])
   simp[h,this]
end Go.Proofs.Ytpcjbkgbnoocaaa
