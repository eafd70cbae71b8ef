/- The structs opened; the sizes, the copies, the comparisons: plain laws. By program. -/
import Derived.Test.YtleekpaohfpooaaGreatFnsMVF
import Derived.Test.YtleekpaohfpooaaGreatLawVF
set_option linter.unusedVariables false
set_option linter.unusedSimpArgs false
open Option renaming bind_some → bG
open List renaming mem_of_getElem? → bL
namespace Go.Proofs.YtleekpaohfpooaaGreat
open Go Go.Wk Go.Proofs
set_option maxRecDepth 100000
def Sig.ok (x:Sig):Prop:=I64 x.In/\I64 x.Out
def Sig.bd (x:Sig):Prop:=True/\True
def Clause.ok (x:Clause):Prop:=I64 x.Kind/\(okS I64) x.A/\(okS I64) x.B
def Clause.bd (x:Clause):Prop:=True/\(List.length x.A<=1048576/\∀a∈x.A,True)/\(List.length x.B<=1048576/\∀a∈x.B,True)
theorem fq {p0:(List Int)}{c1_0:Int}(g:Int->Bool) (hp:∀x∈p0,eW x c1_0=some (g x)):cF p0 c1_0=some (match p0.findIdx? g with | some i=>(i:Int) | none=> -1):=by
 unfold cF
 rw[ee (f:=cE p0 c1_0) g (λi=>(i:Int)) (xs:=p0) (λi x hx=>by
  unfold cE
  rw[bT,hx,bG,hp x (bL hx),bG]
  cases g x <;> rfl),bG]
 cases p0.findIdx? g <;> rfl
theorem eP {p0:(List Int)}{c1_0:Int}(g:Int->Bool) (hp:∀x∈p0,eW x c1_0=some (g x)):cD p0 c1_0=some (p0.any g):=by
 unfold cD
 rw[fq g hp,bG]
 exact congrArg some (iO g p0)
theorem dW {p0:(List Clause)}{c1_0:Sig}(g:Clause->Bool) (hp:∀x∈p0,eV x c1_0=some (g x)):cr p0 c1_0=some (match p0.findIdx? g with | some i=>(i:Int) | none=> -1):=by
 unfold cr
 rw[ee (f:=cm p0 c1_0) g (λi=>(i:Int)) (xs:=p0) (λi x hx=>by
  unfold cm
  rw[bT,hx,bG,hp x (bL hx),bG]
  cases g x <;> rfl),bG]
 cases p0.findIdx? g <;> rfl
theorem dP {p0:(List Clause)}{c1_0:Sig}(g:Clause->Bool) (hp:∀x∈p0,eV x c1_0=some (g x)):cj p0 c1_0=some (p0.any g):=by
 unfold cj
 rw[dW g hp,bG]
 exact congrArg some (iO g p0)
theorem ja (p0:List Int) (p1:Int):db p0 p1=some (match p0.findIdx? (λx=>p1==x) with | some i=>(i:Int) | none=> -1):=by
 unfold db
 rw[ee (f:=dm p0 p1) (λx=>p1==x) (λi=>(i:Int)) (xs:=p0) (λi x hx=>by
  unfold dm
  simp only[bT,hx,bG]
  cases p1==x <;> rfl),bG]
 cases p0.findIdx? (λx=>p1==x) <;> rfl
theorem cK (p0:List Int) (p1:Int):bW p0 p1=some (p0.any (λx=>p1==x)):=by
 unfold bW
 rw[ja,bG]
 exact congrArg some (iO _ p0)
theorem dU {p0:(List Int)}{c1_0_0:Clause}(g:Int->Bool) (hp:∀x∈p0,cP x c1_0_0=some (g x)):cq p0 c1_0_0=some (match p0.findIdx? g with | some i=>(i:Int) | none=> -1):=by
 unfold cq
 rw[ee (f:=ck p0 c1_0_0) g (λi=>(i:Int)) (xs:=p0) (λi x hx=>by
  unfold ck
  rw[bT,hx,bG,hp x (bL hx),bG]
  cases g x <;> rfl),bG]
 cases p0.findIdx? g <;> rfl
theorem dO {p0:(List Int)}{c1_0_0:Clause}(g:Int->Bool) (hp:∀x∈p0,cP x c1_0_0=some (g x)):bX p0 c1_0_0=some (p0.any g):=by
 unfold bX
 rw[dU g hp,bG]
 exact congrArg some (iO g p0)
theorem gf {p0:(List Int)}{c1_0:Clause}(g:Int->Bool) (hp:∀x∈p0,eA x c1_0=some (g x)):cM p0 c1_0=some (match p0.findIdx? g with | some i=>(i:Int) | none=> -1):=by
 unfold cM
 rw[ee (f:=cH p0 c1_0) g (λi=>(i:Int)) (xs:=p0) (λi x hx=>by
  unfold cH
  rw[bT,hx,bG,hp x (bL hx),bG]
  cases g x <;> rfl),bG]
 cases p0.findIdx? g <;> rfl
theorem fp {p0:(List Int)}{c1_0:Clause}(g:Int->Bool) (hp:∀x∈p0,eA x c1_0=some (g x)):cn p0 c1_0=some (p0.any g):=by
 unfold cn
 rw[gf g hp,bG]
 exact congrArg some (iO g p0)
theorem ga {p0:(List Int)}{c1_0:Clause}(g:Int->Bool) (hp:∀x∈p0,d7 x c1_0=some (g x)):cL p0 c1_0=some (match p0.findIdx? g with | some i=>(i:Int) | none=> -1):=by
 unfold cL
 rw[ee (f:=cG p0 c1_0) g (λi=>(i:Int)) (xs:=p0) (λi x hx=>by
  unfold cG
  rw[bT,hx,bG,hp x (bL hx),bG]
  cases g x <;> rfl),bG]
 cases p0.findIdx? g <;> rfl
theorem fo {p0:(List Int)}{c1_0:Clause}(g:Int->Bool) (hp:∀x∈p0,d7 x c1_0=some (g x)):cg p0 c1_0=some (p0.any g):=by
 unfold cg
 rw[ga g hp,bG]
 exact congrArg some (iO g p0)
theorem dS {p0:(List Clause)}{c1_0:Word}(g:Clause->Bool) (hp:∀x∈p0,fJ x c1_0=some (g x)):co p0 c1_0=some (match p0.findIdx? g with | some i=>(i:Int) | none=> -1):=by
 unfold co
 rw[ee (f:=ci p0 c1_0) g (λi=>(i:Int)) (xs:=p0) (λi x hx=>by
  unfold ci
  rw[bT,hx,bG,hp x (bL hx),bG]
  cases g x <;> rfl),bG]
 cases p0.findIdx? g <;> rfl
end Go.Proofs.YtleekpaohfpooaaGreat
