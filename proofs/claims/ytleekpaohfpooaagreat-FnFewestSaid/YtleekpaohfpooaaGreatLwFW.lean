/- The structs opened; the sizes, the copies, the comparisons: plain laws. By program. -/
import Derived.Test.YtleekpaohfpooaaGreatFnsMFW
import Derived.Test.YtleekpaohfpooaaGreatLawFW
set_option linter.unusedVariables false
set_option linter.unusedSimpArgs false
open Option renaming bind_some → bI
namespace Go.Proofs.YtleekpaohfpooaaGreat
open Go Go.Wk Go.Proofs
set_option maxRecDepth 100000
def Clause.ok (x:Clause):Prop:=I64 x.Kind/\(okS I64) x.A/\(okS I64) x.B
def Clause.bd (x:Clause):Prop:=True/\(List.length x.A<=1048576/\∀a∈x.A,True)/\(List.length x.B<=1048576/\∀a∈x.B,True)
theorem dB {p0:(List Clause)}{c1_0:Sig}(g:Clause->Bool) (hp:∀x∈p0,ec x c1_0=some (g x)):ci p0 c1_0=some (match p0.findIdx? g with | some i=>(i:Int) | none=> -1):=by
 unfold ci
 rw[gU (f:=cg p0 c1_0) g (λi=>(i:Int)) (xs:=p0) (λi x hx=>by
  unfold cg
  rw[bS,hx,bI,hp x (List.mem_of_getElem? hx),bI]
  cases g x <;> rfl),bI]
 cases p0.findIdx? g <;> rfl
theorem dv {p0:(List Clause)}{c1_0:Sig}(g:Clause->Bool) (hp:∀x∈p0,ec x c1_0=some (g x)):cd p0 c1_0=some (p0.any g):=by
 unfold cd
 rw[dB g hp,bI]
 exact congrArg some (mc g p0)
theorem eC {p0:(List Int)}{c1_0:Int}(g:Int->Bool) (hp:∀x∈p0,ed x c1_0=some (g x)):cw p0 c1_0=some (match p0.findIdx? g with | some i=>(i:Int) | none=> -1):=by
 unfold cw
 rw[gU (f:=cr p0 c1_0) g (λi=>(i:Int)) (xs:=p0) (λi x hx=>by
  unfold cr
  rw[bS,hx,bI,hp x (List.mem_of_getElem? hx),bI]
  cases g x <;> rfl),bI]
 cases p0.findIdx? g <;> rfl
theorem dZ {p0:(List Int)}{c1_0:Int}(g:Int->Bool) (hp:∀x∈p0,ed x c1_0=some (g x)):cq p0 c1_0=some (p0.any g):=by
 unfold cq
 rw[eC g hp,bI]
 exact congrArg some (mc g p0)
theorem ik (p0:List Int) (p1:Int):cM p0 p1=some (match p0.findIdx? (λx=>p1==x) with | some i=>(i:Int) | none=> -1):=by
 unfold cM
 rw[gU (f:=cW p0 p1) (λx=>p1==x) (λi=>(i:Int)) (xs:=p0) (λi x hx=>by
  unfold cW
  simp only[bS,hx,bI]
  cases p1==x <;> rfl),bI]
 cases p0.findIdx? (λx=>p1==x) <;> rfl
theorem cL (p0:List Int) (p1:Int):cc p0 p1=some (p0.any (λx=>p1==x)):=by
 unfold cc
 rw[ik,bI]
 exact congrArg some (mc _ p0)
theorem ij (p0 p1:List Int):dW p0 p1=some (decide (p0=p1)):=by
 unfold dW
 rw[wI]
 by_cases h:p0.length=p1.length
 · simp only[h,decide_true,Bool.not_true,cond_false]
   rw[show p1.length=p0.length from h.symm,rv (f:=eA p0 p1) (r:=false) (λx y=>decide (x=y)) h (λi x y hx hy=>by
    unfold eA
    rw[bS,hx,bI,bS,hy,bI]
    by_cases e:x=y
    · subst e;simp
    · have a:(x==y)=false:=by simp[e]
      simp[bne,a,e]),lY h]
   by_cases e:p0=p1
   · simp[e,aft]
   · simp[e,aft]
 · have:¬(p0=p1):=λe=>h (by rw[e])
   simp[h,this]
end Go.Proofs.YtleekpaohfpooaaGreat
