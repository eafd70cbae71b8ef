/- The structs opened; the sizes, the copies, the comparisons: plain laws. By program. -/
import Derived.Test.YtleekpaohfpooaaGreatFnsMKE
import Derived.Test.YtleekpaohfpooaaGreatLawKE
set_option linter.unusedVariables false
set_option linter.unusedSimpArgs false
open Option renaming bind_some → bE
open List renaming mem_of_getElem? → yB
namespace Go.Proofs.YtleekpaohfpooaaGreat
open Go Go.Wk Go.Proofs
set_option maxRecDepth 100000
def Clause.ok (x:Clause):Prop:=I64 x.Kind/\(okS I64) x.A/\(okS I64) x.B
def Clause.bd (x:Clause):Prop:=True/\(List.length x.A<=1048576/\∀y0∈x.A,True)/\(List.length x.B<=1048576/\∀y0∈x.B,True)
theorem dg {p0:(List Clause)}{c1_0:Sig}(g:Clause->Bool) (hp:∀x∈p0,ek x c1_0=some (g x)):bU p0 c1_0=some (match p0.findIdx? g with | some i=>(i:Int) | none=> -1):=by
 unfold bU
 rw[fU (f:=bS p0 c1_0) g (λi=>(i:Int)) (xs:=p0) (λi x hx=>by
  unfold bS
  rw[bH,hx,bE,hp x (yB hx),bE]
  cases g x <;> rfl),bE]
 cases p0.findIdx? g <;> rfl
theorem c9 {p0:(List Clause)}{c1_0:Sig}(g:Clause->Bool) (hp:∀x∈p0,ek x c1_0=some (g x)):bR p0 c1_0=some (p0.any g):=by
 unfold bR
 rw[dg g hp,bE]
 exact congrArg some (lQ g p0)
theorem gB (p0:List Int) (p1:Int):cz p0 p1=some (match p0.findIdx? (λx=>p1==x) with | some i=>(i:Int) | none=> -1):=by
 unfold cz
 rw[fU (f:=cM p0 p1) (λx=>p1==x) (λi=>(i:Int)) (xs:=p0) (λi x hx=>by
  unfold cM
  simp only[bH,hx,bE]
  cases p1==x <;> rfl),bE]
 cases p0.findIdx? (λx=>p1==x) <;> rfl
theorem dw (p0:List Int) (p1:Int):bO p0 p1=some (p0.any (λx=>p1==x)):=by
 unfold bO
 rw[gB,bE]
 exact congrArg some (lQ _ p0)
theorem kQ (p0 p1:List Int):c7 p0 p1=some (decide (p0=p1)):=by
 unfold c7
 rw[xF]
 by_cases h:p0.length=p1.length
 · simp only[h,decide_true,Bool.not_true,cond_false]
   rw[show p1.length=p0.length from h.symm,uB (f:=cL p0 p1) (r:=false) (λx y=>decide (x=y)) h (λi x y hx hy=>by
    unfold cL
    rw[bH,hx,bE,bH,hy,bE]
    by_cases e:x=y
    · subst e;simp
    · have e':(x==y)=false:=by simp[e]
      simp[bne,e',e]),np h]
   by_cases e:p0=p1
   · simp[e,aft]
   · simp[e,aft]
 · have:¬(p0=p1):=λe=>h (by rw[e])
   simp[h,this]
theorem dF {p0:(List Place)}{c1_0:Int}{c1_1:(List Int)}(g:Place->Bool) (hp:∀x∈p0,ji x c1_0 c1_1=some (g x)):bZ p0 c1_0 c1_1=some (match p0.findIdx? g with | some i=>(i:Int) | none=> -1):=by
 unfold bZ
 rw[fU (f:=bW p0 c1_0 c1_1) g (λi=>(i:Int)) (xs:=p0) (λi x hx=>by
  unfold bW
  rw[bH,hx,bE,hp x (yB hx),bE]
  cases g x <;> rfl),bE]
 cases p0.findIdx? g <;> rfl
theorem eK {p0:(List Int)}{c1_0:(List Place)}{c1_1:Int}{c1_2:Int}{c1_3:Sig}{c1_4:Int}(g:Int->Bool) (hp:∀x∈p0,gn x c1_0 c1_1 c1_2 c1_3 c1_4=some (g x)):bY p0 c1_0 c1_1 c1_2 c1_3 c1_4=some (match p0.findIdx? g with | some i=>(i:Int) | none=> -1):=by
 unfold bY
 rw[fU (f:=cd p0 c1_0 c1_1 c1_2 c1_3 c1_4) g (λi=>(i:Int)) (xs:=p0) (λi x hx=>by
  unfold cd
  rw[bH,hx,bE,hp x (yB hx),bE]
  cases g x <;> rfl),bE]
 cases p0.findIdx? g <;> rfl
theorem eC {p0:(List Int)}{c1_0:Int}(g:Int->Bool) (hp:∀x∈p0,em x c1_0=some (g x)):cg p0 c1_0=some (match p0.findIdx? g with | some i=>(i:Int) | none=> -1):=by
 unfold cg
 rw[fU (f:=cc p0 c1_0) g (λi=>(i:Int)) (xs:=p0) (λi x hx=>by
  unfold cc
  rw[bH,hx,bE,hp x (yB hx),bE]
  cases g x <;> rfl),bE]
 cases p0.findIdx? g <;> rfl
theorem dR {p0:(List Int)}{c1_0:Int}(g:Int->Bool) (hp:∀x∈p0,em x c1_0=some (g x)):cb p0 c1_0=some (p0.any g):=by
 unfold cb
 rw[eC g hp,bE]
 exact congrArg some (lQ g p0)
end Go.Proofs.YtleekpaohfpooaaGreat
