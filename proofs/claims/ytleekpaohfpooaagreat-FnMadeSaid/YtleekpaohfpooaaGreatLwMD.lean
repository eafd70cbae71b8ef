/- The structs opened; the sizes, the copies, the comparisons: plain laws. By program. -/
import Derived.Test.YtleekpaohfpooaaGreatFnsMMD
import Derived.Test.YtleekpaohfpooaaGreatLawMD
set_option linter.unusedVariables false
set_option linter.unusedSimpArgs false
open List renaming mem_of_getElem? → Db
open Option renaming bind_some → D3
namespace Go.Proofs.YtleekpaohfpooaaGreat
open Go Go.Wk Go.Proofs
set_option maxRecDepth 100000
def Clause.ok (x:Clause):Prop:=I64 x.Kind/\(okS I64) x.A/\(okS I64) x.B
def Clause.bd (x:Clause):Prop:=True/\(List.length x.A<=1048576/\∀a∈x.A,True)/\(List.length x.B<=1048576/\∀a∈x.B,True)
theorem dT {p0:VC}{c1_0:Sig}(g:Clause->Bool) (c:∀a∈p0,eZ a c1_0=some (g a)):cn p0 c1_0=some (match p0.findIdx? g with | some i=>(i:Int) | none=> -1):=by
 unfold cn
 rw[iq (f:=cm p0 c1_0) g (λi=>(i:Int)) (xs:=p0) (λi a b=>by
  unfold cm
  rw[bT,b,D3,c a (Db b),D3]
  cases g a <;> rfl),D3]
 cases p0.findIdx? g <;> rfl
theorem dL {p0:VC}{c1_0:Sig}(g:Clause->Bool) (b:∀a∈p0,eZ a c1_0=some (g a)):ck p0 c1_0=some (p0.any g):=by
 unfold ck
 rw[dT g b,D3]
 exact congrArg some (nP g p0)
theorem jo (p0:VI) (p1:Int):cR p0 p1=some (match p0.findIdx? (λa=>p1==a) with | some i=>(i:Int) | none=> -1):=by
 unfold cR
 rw[iq (f:=du p0 p1) (λa=>p1==a) (λi=>(i:Int)) (xs:=p0) (λi a b=>by
  unfold du
  simp only[bT,b,D3]
  cases p1==a <;> rfl),D3]
 cases p0.findIdx? (λa=>p1==a) <;> rfl
theorem cP (p0:VI) (p1:Int):bY p0 p1=some (p0.any (λa=>p1==a)):=by
 unfold bY
 rw[jo,D3]
 exact congrArg some (nP _ p0)
theorem fE (p0 p1:VI):c8 p0 p1=some (decide (p0=p1)):=by
 unfold c8
 rw[zk]
 by_cases h:p0.length=p1.length
 .simp only[h,decide_true,Bool.not_true,cond_false]
  rw[show p1.length=p0.length from h.symm,uf (f:=dt p0 p1) (r:=false) (λb c=>decide (b=c)) h (λi b c e g=>by
   unfold dt
   rw[bT,e,D3,bT,g,D3]
   by_cases a:b=c
   .subst a;simp
   .have d:(b==c)=false:=by simp[a]
    simp[bne,d,a]),nI h]
  by_cases a:p0=p1
  .simp[a,aft]
  .simp[a,aft]
 .have:¬(p0=p1):=λa=>h (by rw[a])
  simp[h,this]
theorem eA {p0:VL}{c1_0:Int}{b:VI}(g:Place->Bool) (d:∀a∈p0,kq a c1_0 b=some (g a)):cz p0 c1_0 b=some (match p0.findIdx? g with | some i=>(i:Int) | none=> -1):=by
 unfold cz
 rw[iq (f:=cr p0 c1_0 b) g (λi=>(i:Int)) (xs:=p0) (λi a c=>by
  unfold cr
  rw[bT,c,D3,d a (Db c),D3]
  cases g a <;> rfl),D3]
 cases p0.findIdx? g <;> rfl
theorem fU {p0:VI}{c1_0:VL}{b:Int}{c:Int}{c1_3:Sig}{d:Int}(g:Int->Bool) (j:∀a∈p0,iD a c1_0 b c c1_3 d=some (g a)):cw p0 c1_0 b c c1_3 d=some (match p0.findIdx? g with | some i=>(i:Int) | none=> -1):=by
 unfold cw
 rw[iq (f:=cD p0 c1_0 b c c1_3 d) g (λi=>(i:Int)) (xs:=p0) (λi a e=>by
  unfold cD
  rw[bT,e,D3,j a (Db e),D3]
  cases g a <;> rfl),D3]
 cases p0.findIdx? g <;> rfl
theorem fI {p0:VI}{c1_0:Int}(g:Int->Bool) (c:∀a∈p0,fa a c1_0=some (g a)):cE p0 c1_0=some (match p0.findIdx? g with | some i=>(i:Int) | none=> -1):=by
 unfold cE
 rw[iq (f:=cC p0 c1_0) g (λi=>(i:Int)) (xs:=p0) (λi a b=>by
  unfold cC
  rw[bT,b,D3,c a (Db b),D3]
  cases g a <;> rfl),D3]
 cases p0.findIdx? g <;> rfl
theorem eQ {p0:VI}{c1_0:Int}(g:Int->Bool) (b:∀a∈p0,fa a c1_0=some (g a)):cB p0 c1_0=some (p0.any g):=by
 unfold cB
 rw[fI g b,D3]
 exact congrArg some (nP g p0)
end Go.Proofs.YtleekpaohfpooaaGreat
