/- The structs opened; the sizes, the copies, the comparisons: plain laws. By program. -/
import Derived.Test.YtgbippnfaoedmaaGreatDoorFnsMBG
import Derived.Test.YtgbippnfaoedmaaGreatDoorLawBG
set_option linter.unusedVariables false
set_option linter.unusedSimpArgs false
open Option renaming bind_some → Af
namespace Go.Proofs.YtgbippnfaoedmaaGreatDoor
open Go Go.Wk Go.Proofs
set_option maxRecDepth 100000
theorem fc (p0:VI) (p1:Int):bR p0 p1=some (match p0.findIdx? (λa=>p1==a) with | some i=>(i:Int) | none=> -1):=by
 unfold bR
 rw[tV (f:=bT p0 p1) (λa=>p1==a) (λi=>(i:Int)) (xs:=p0) (λi a b=>by
  unfold bT
  simp only[aS,b,Af]
  cases p1==a <;> rfl),Af]
 cases p0.findIdx? (λa=>p1==a) <;> rfl
theorem iV (p0:VI) (p1:Int):bs p0 p1=some (p0.any (λa=>p1==a)):=by
 unfold bs
 rw[fc,Af]
 exact congrArg some (re _ p0)
theorem fa (p0 p1:VI):bP p0 p1=some (decide (p0=p1)):=by
 unfold bP
 rw[xp]
 by_cases h:p0.length=p1.length
 .simp only[h,decide_true,Bool.not_true,cond_false]
  rw[show p1.length=p0.length from h.symm,vM (f:=bQ p0 p1) (r:=false) (λb c=>decide (b=c)) h (λi b c e g=>by
   unfold bQ
   rw[aS,e,Af,aS,g,Af]
   by_cases a:b=c
   .subst a;simp
   .have d:(b==c)=false:=by simp[a]
    simp[bne,d,a]),oU h]
  by_cases a:p0=p1
  .simp[a,aft]
  .simp[a,aft]
 .have:¬(p0=p1):=λa=>h (by rw[a])
  simp[h,this]
end Go.Proofs.YtgbippnfaoedmaaGreatDoor
