/- The structs opened; the sizes, the copies, the comparisons: plain laws. By program. -/
import Derived.Test.YtpcjbkgbnoocaaaGreatFnsMDU
import Derived.Test.YtpcjbkgbnoocaaaGreatLawDU
set_option linter.unusedVariables false
set_option linter.unusedSimpArgs false
open Option renaming bind_some → bz
open List renaming mem_of_getElem? → it
namespace Go.Proofs.YtpcjbkgbnoocaaaGreat
open Go Go.Wk Go.Proofs
set_option maxRecDepth 100000
def Clause.ok (x:Clause):Prop:=I64 x.Kind/\(okS I64) x.A/\(okS I64) x.B
def Clause.bd (x:Clause):Prop:=True/\(List.length x.A<=1048576/\∀y0∈x.A,True)/\(List.length x.B<=1048576/\∀y0∈x.B,True)
def Sig.ok (x:Sig):Prop:=I64 x.In/\I64 x.Out
def Sig.bd (x:Sig):Prop:=True/\True
def Machine.ok (x:Machine):Prop:=(okS (okS I64)) x.Next/\(okS (okS I64)) x.Out
def Machine.bd (x:Machine):Prop:=(List.length x.Next<=1048576/\∀y0∈x.Next,(List.length y0<=1048576/\∀y1∈y0,True))/\(List.length x.Out<=1048576/\∀y0∈x.Out,(List.length y0<=1048576/\∀y1∈y0,True))
theorem eo {p0:(List Int)}{c1_0:Int}(g:Int->Bool) (hp:∀x∈p0,ee x c1_0=some (g x)):bQ p0 c1_0=some (match p0.findIdx? g with | some i=>(i:Int) | none=> -1):=by
 unfold bQ
 rw[dC (f:=bN p0 c1_0) g (λi=>(i:Int)) (xs:=p0) (λi x hx=>by
  unfold bN
  rw[bC,hx,bz,hp x (it hx),bz]
  cases g x <;> rfl),bz]
 cases p0.findIdx? g <;> rfl
theorem dR {p0:(List Int)}{c1_0:Int}(g:Int->Bool) (hp:∀x∈p0,ee x c1_0=some (g x)):bP p0 c1_0=some (p0.any g):=by
 unfold bP
 rw[eo g hp,bz]
 exact congrArg some (mf g p0)
theorem gk (p0:List Int) (p1:Int):ch p0 p1=some (match p0.findIdx? (λx=>p1==x) with | some i=>(i:Int) | none=> -1):=by
 unfold ch
 rw[dC (f:=cP p0 p1) (λx=>p1==x) (λi=>(i:Int)) (xs:=p0) (λi x hx=>by
  unfold cP
  simp only[bC,hx,bz]
  cases p1==x <;> rfl),bz]
 cases p0.findIdx? (λx=>p1==x) <;> rfl
theorem cR (p0:List Int) (p1:Int):bJ p0 p1=some (p0.any (λx=>p1==x)):=by
 unfold bJ
 rw[gk,bz]
 exact congrArg some (mf _ p0)
theorem eh (p0 p1:List Int):bX p0 p1=some (decide (p0=p1)):=by
 unfold bX
 rw[xq]
 by_cases h:p0.length=p1.length
 · simp only[h,decide_true,Bool.not_true,cond_false]
   rw[show p1.length=p0.length from h.symm,ub (f:=cO p0 p1) (r:=false) (λx y=>decide (x=y)) h (λi x y hx hy=>by
    unfold cO
    rw[bC,hx,bz,bC,hy,bz]
    by_cases e:x=y
    · subst e;simp
    · have e':(x==y)=false:=by simp[e]
      simp[bne,e',e]),np h]
   by_cases e:p0=p1
   · simp[e,aft]
   · simp[e,aft]
 · have:¬(p0=p1):=λe=>h (by rw[e])
   simp[h,this]
theorem df {p0:(List Clause)}{c1_0:Sig}(g:Clause->Bool) (hp:∀x∈p0,gz x c1_0=some (g x)):bZ p0 c1_0=some (match p0.findIdx? g with | some i=>(i:Int) | none=> -1):=by
 unfold bZ
 rw[dC (f:=bV p0 c1_0) g (λi=>(i:Int)) (xs:=p0) (λi x hx=>by
  unfold bV
  rw[bC,hx,bz,hp x (it hx),bz]
  cases g x <;> rfl),bz]
 cases p0.findIdx? g <;> rfl
theorem db {p0:(List Clause)}{c1_0:Sig}(g:Clause->Bool) (hp:∀x∈p0,gz x c1_0=some (g x)):bW p0 c1_0=some (p0.any g):=by
 unfold bW
 rw[df g hp,bz]
 exact congrArg some (mf g p0)
theorem dB {p0:(List Place)}{c1_0:Int}{c1_1:(List Int)}(g:Place->Bool) (hp:∀x∈p0,my x c1_0 c1_1=some (g x)):cj p0 c1_0 c1_1=some (match p0.findIdx? g with | some i=>(i:Int) | none=> -1):=by
 unfold cj
 rw[dC (f:=cg p0 c1_0 c1_1) g (λi=>(i:Int)) (xs:=p0) (λi x hx=>by
  unfold cg
  rw[bC,hx,bz,hp x (it hx),bz]
  cases g x <;> rfl),bz]
 cases p0.findIdx? g <;> rfl
theorem eA {p0:(List Int)}{c1_0:(List Place)}{c1_1:Int}{c1_2:Int}{c1_3:Sig}{c1_4:Int}(g:Int->Bool) (hp:∀x∈p0,kr x c1_0 c1_1 c1_2 c1_3 c1_4=some (g x)):cc p0 c1_0 c1_1 c1_2 c1_3 c1_4=some (match p0.findIdx? g with | some i=>(i:Int) | none=> -1):=by
 unfold cc
 rw[dC (f:=cq p0 c1_0 c1_1 c1_2 c1_3 c1_4) g (λi=>(i:Int)) (xs:=p0) (λi x hx=>by
  unfold cq
  rw[bC,hx,bz,hp x (it hx),bz]
  cases g x <;> rfl),bz]
 cases p0.findIdx? g <;> rfl
theorem ew {p0:(List Int)}{c1_0:(List Place)}{c1_1:Int}(g:Int->Bool) (hp:∀x∈p0,km x c1_0 c1_1=some (g x)):cd p0 c1_0 c1_1=some (match p0.findIdx? g with | some i=>(i:Int) | none=> -1):=by
 unfold cd
 rw[dC (f:=co p0 c1_0 c1_1) g (λi=>(i:Int)) (xs:=p0) (λi x hx=>by
  unfold co
  rw[bC,hx,bz,hp x (it hx),bz]
  cases g x <;> rfl),bz]
 cases p0.findIdx? g <;> rfl
end Go.Proofs.YtpcjbkgbnoocaaaGreat
