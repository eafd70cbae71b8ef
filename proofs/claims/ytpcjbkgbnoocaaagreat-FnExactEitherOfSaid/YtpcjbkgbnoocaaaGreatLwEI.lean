/- The structs opened; the sizes, the copies, the comparisons: plain laws. By program. -/
import Derived.Test.YtpcjbkgbnoocaaaGreatFnsMEI
import Derived.Test.YtpcjbkgbnoocaaaGreatLawEI
set_option linter.unusedVariables false
set_option linter.unusedSimpArgs false
open Option renaming bind_some → gs
open List renaming mem_of_getElem? → t0
namespace Go.Proofs.YtpcjbkgbnoocaaaGreat
open Go Go.Wk Go.Proofs
set_option maxRecDepth 100000
def Clause.ok (x:Clause):Prop:=I64 x.Kind/\(okS I64) x.A/\(okS I64) x.B
def Clause.bd (x:Clause):Prop:=True/\(List.length x.A<=1048576/\∀y0∈x.A,True)/\(List.length x.B<=1048576/\∀y0∈x.B,True)
theorem Clause.opn97:Opn Tryz.prog 97 Clause.rp Clause.ok:=
 sq (ok:=λ(p:Int×(List Int)×(List Int))=>I64 p.1/\(okS I64) p.2.1/\(okS I64) p.2.2) _ (λp=>⟨p.1,p.2.1,p.2.2⟩) (λ_=>rfl) (n9 Tryz.underlying97 rfl (by kernel_rfl) (nk rfl (by kernel_rfl) (mt Tryz.underlying2) (nk rfl (by kernel_rfl) (sd Tryz.underlying29 (by kernel_rfl) rfl (mt Tryz.underlying2)) (qH rfl (by kernel_rfl) (sd Tryz.underlying29 (by kernel_rfl) rfl (mt Tryz.underlying2))))))
def Sig.ok (x:Sig):Prop:=I64 x.In/\I64 x.Out
def Sig.bd (x:Sig):Prop:=True/\True
theorem Sig.bdt (x:Sig):Sig.bd x:=by unfold Sig.bd;simp
theorem Sig.opn43:Opn Tryz.prog 43 Sig.rp Sig.ok:=
 sq (ok:=λ(p:Int×Int)=>I64 p.1/\I64 p.2) _ (λp=>⟨p.1,p.2⟩) (λ_=>rfl) (n9 Tryz.underlying43 rfl (by kernel_rfl) (nk rfl (by kernel_rfl) (mt Tryz.underlying2) (qH rfl (by kernel_rfl) (mt Tryz.underlying2))))
theorem cP {p0:(List Clause)}{c1_0:Sig}(g:Clause->Bool) (hp:∀x∈p0,dw x c1_0=some (g x)):bS p0 c1_0=some (match p0.findIdx? g with | some i=>(i:Int) | none=> -1):=by
 unfold bS
 rw[en (f:=bQ p0 c1_0) g (λi=>(i:Int)) (xs:=p0) (λi x hx=>by
  unfold bQ
  rw[bG,hx,gs,hp x (t0 hx),gs]
  cases g x <;> rfl),gs]
 cases p0.findIdx? g <;> rfl
theorem cK {p0:(List Clause)}{c1_0:Sig}(g:Clause->Bool) (hp:∀x∈p0,dw x c1_0=some (g x)):bP p0 c1_0=some (p0.any g):=by
 unfold bP
 rw[cP g hp,gs]
 exact congrArg some (lg g p0)
theorem fU (p0:List Int) (p1:Int):cn p0 p1=some (match p0.findIdx? (λx=>p1==x) with | some i=>(i:Int) | none=> -1):=by
 unfold cn
 rw[en (f:=cA p0 p1) (λx=>p1==x) (λi=>(i:Int)) (xs:=p0) (λi x hx=>by
  unfold cA
  simp only[bG,hx,gs]
  cases p1==x <;> rfl),gs]
 cases p0.findIdx? (λx=>p1==x) <;> rfl
theorem cX (p0:List Int) (p1:Int):bN p0 p1=some (p0.any (λx=>p1==x)):=by
 unfold bN
 rw[fU,gs]
 exact congrArg some (lg _ p0)
theorem dU {p0:(List Int)}{c1_0:Int}(g:Int->Bool) (hp:∀x∈p0,dP x c1_0=some (g x)):cb p0 c1_0=some (match p0.findIdx? g with | some i=>(i:Int) | none=> -1):=by
 unfold cb
 rw[en (f:=bY p0 c1_0) g (λi=>(i:Int)) (xs:=p0) (λi x hx=>by
  unfold bY
  rw[bG,hx,gs,hp x (t0 hx),gs]
  cases g x <;> rfl),gs]
 cases p0.findIdx? g <;> rfl
theorem dm {p0:(List Int)}{c1_0:Int}(g:Int->Bool) (hp:∀x∈p0,dP x c1_0=some (g x)):bX p0 c1_0=some (p0.any g):=by
 unfold bX
 rw[dU g hp,gs]
 exact congrArg some (lg g p0)
theorem jY (p0 p1:List Int):cJ p0 p1=some (decide (p0=p1)):=by
 unfold cJ
 rw[vk]
 by_cases h:p0.length=p1.length
 · simp only[h,decide_true,Bool.not_true,cond_false]
   rw[show p1.length=p0.length from h.symm,sQ (f:=cB p0 p1) (r:=false) (λx y=>decide (x=y)) h (λi x y hx hy=>by
    unfold cB
    rw[bG,hx,gs,bG,hy,gs]
    by_cases e:x=y
    · subst e;simp
    · have e':(x==y)=false:=by simp[e]
      simp[bne,e',e]),mg h]
   by_cases e:p0=p1
   · simp[e,aft]
   · simp[e,aft]
 · have:¬(p0=p1):=λe=>h (by rw[e])
   simp[h,this]
theorem da {p0:(List Place)}{c1_0:Int}{c1_1:(List Int)}(g:Place->Bool) (hp:∀x∈p0,iA x c1_0 c1_1=some (g x)):bW p0 c1_0 c1_1=some (match p0.findIdx? g with | some i=>(i:Int) | none=> -1):=by
 unfold bW
 rw[en (f:=bU p0 c1_0 c1_1) g (λi=>(i:Int)) (xs:=p0) (λi x hx=>by
  unfold bU
  rw[bG,hx,gs,hp x (t0 hx),gs]
  cases g x <;> rfl),gs]
 cases p0.findIdx? g <;> rfl
theorem d5 {p0:(List Int)}{c1_0:(List Place)}{c1_1:Int}(g:Int->Bool) (hp:∀x∈p0,fq x c1_0 c1_1=some (g x)):bV p0 c1_0 c1_1=some (match p0.findIdx? g with | some i=>(i:Int) | none=> -1):=by
 unfold bV
 rw[en (f:=bZ p0 c1_0 c1_1) g (λi=>(i:Int)) (xs:=p0) (λi x hx=>by
  unfold bZ
  rw[bG,hx,gs,hp x (t0 hx),gs]
  cases g x <;> rfl),gs]
 cases p0.findIdx? g <;> rfl
theorem kO {x:(List Int)}(ok:(okS I64) x){m:Int}(h0:0<=m) (h1:m<=1048576):∃v,gR x m=some v/\v<=m/\(0<=v->(List.length x<=1048576/\∀y0∈x,True)):=by
 have hl:=ok.2
 unfold maxLen at hl
 unfold gR
 rw[wr' (by omega) (by omega)]
 by_cases h:m-(x.length:Int)<0
 · exact⟨-1,by simp[h],by omega,by omega⟩
 · exact⟨m-(x.length:Int),by simp only[h,decide_false,cond_false],by omega,λ_=>⟨by omega,λ_ _=>trivial⟩⟩
theorem oF {x:Clause}(ok:Clause.ok x){m:Int}(h0:0<=m) (h1:m<=1048576):∃v,jq x m=some v/\v<=m/\(0<=v->Clause.bd x):=by
 obtain⟨ok0,ok1,ok2⟩:=ok
 unfold jq
 obtain⟨v1,e1,l1,b1⟩:=kO ok1 (m:=m) (by omega) (by omega)
 rw[e1,gs]
 by_cases g1:v1<0
 · exact⟨-1,by simp only[g1,decide_true,cond_true],by omega,by omega⟩
 simp only[g1,decide_false,cond_false]
 obtain⟨v2,e2,l2,b2⟩:=kO ok2 (m:=v1) (by omega) (by omega)
 rw[e2,gs]
 by_cases g2:v2<0
 · exact⟨-1,by simp only[g2,decide_true,cond_true],by omega,by omega⟩
 simp only[g2,decide_false,cond_false]
 exact⟨_,rfl,by omega,λ_=>⟨trivial,b1 (by omega),b2 (by omega)⟩⟩
theorem nL {x:(List Clause)}(ok:(okS Clause.ok) x){m:Int}(h0:0<=m) (h1:m<=1048576):∃v,iq x m=some v/\v<=m/\(0<=v->(List.length x<=1048576/\∀y0∈x,Clause.bd y0)):=by
 have hl:=ok.2
 unfold maxLen at hl
 unfold iq
 rw[wr' (by omega) (by omega)]
 by_cases h:m-(x.length:Int)<0
 · exact⟨-1,by simp[h],by omega,by omega⟩
 simp only[h,decide_false,cond_false]
 obtain⟨o,ho,hm⟩:=oB (f:=eP x) (λj s=>0<=s/\s<=m/\∀(i:Nat) y,i<j->x[i]? =some y->Clause.bd y) (λr=>r= -1) (λ_=>False) x.length (s:=m-x.length) ⟨by omega,by omega,λ_ _ h=>absurd h (Nat.not_lt_zero _)⟩ (λj s hj hi=>by
  obtain⟨i0,i1,i2⟩:=hi
  have hx:x[j]? =some x[j]:=by simp[hj]
  obtain⟨v,hv,hvm,hb⟩:=oF (ok.1 _ (t0 hx)) i0 (by omega)
  unfold eP
  rw[bG,hx,gs,hv,gs]
  by_cases hv0:v<0
  · exact⟨.inl (-1),by simp only[hv0,decide_true,cond_true],rfl⟩
  · refine⟨.inr (.inr v),by simp only[hv0,decide_false,cond_false],by omega,by omega,λi y hi hy=>?_⟩
    by_cases e:i=j
    · subst e;rw[hx]at hy;cases hy;exact hb (by omega)
    · exact i2 i y (by omega) hy)
 rw[ho,gs]
 match o,hm with
 | .inl r,hm=>exact⟨r,rfl,by have:r= -1:=hm;omega,λh=>by have:r= -1:=hm;omega⟩
 | .inr s,hm=>
  obtain⟨i0,i1,i2⟩:=hm.resolve_right id
  refine⟨s,rfl,by omega,λ_=>⟨by omega,λy hy=>?_⟩⟩
  obtain⟨i,hi⟩:=List.getElem?_of_mem hy
  exact i2 i y (List.getElem?_eq_some_iff.1 hi).1 hi
theorem rV {x:Sig}(h:Sig.bd x):mu x=some x:=by
 rfl
theorem mb {x:(List Int)}(h:(List.length x<=1048576/\∀y0∈x,True)):gT x=some x:=by
 unfold gT
 rw[cE h.1 rfl,gs]
 have hm:=qf (f:=fl x) id (xs:=x) (ys:=List.replicate x.length 0) (by simp) (λi y ys hy hi=>by
  unfold fl
  have hi2:ys[i]? =some ys[i]:=by simp[hi]
  simp only[bG,hy,hi2,gs,mw hi,id])
 rw[List.map_id]at hm
 rw[hm]
 rfl
theorem pe {x:Clause}(h:Clause.bd x):jo x=some x:=by
 obtain⟨h0,h1,h2⟩:=h
 unfold jo
 simp only[mb h1,mb h2,gs]
theorem oz {x:(List Clause)}(h:(List.length x<=1048576/\∀y0∈x,Clause.bd y0)):eA x=some x:=by
 unfold eA
 rw[cE h.1 rfl,gs]
 have hm:=qf (f:=eC x) id (xs:=x) (ys:=List.replicate x.length ⟨0,[],[]⟩) (by simp) (λi y ys hy hi=>by
  unfold eC
  have hi2:ys[i]? =some ys[i]:=by simp[hi]
  simp only[bG,hy,hi2,gs,pe (h.2 y (t0 hy)),mw hi,id])
 rw[List.map_id]at hm
 rw[hm]
 rfl
theorem kF (x:(List Int)):gE x x=some true:=by
 unfold gE
 have hm:=cI (f:=fg x x) (r:=false) (λ_=>true) (xs:=x) rfl (λi y hy=>by
  unfold fg
  simp[bG,hy])
 simp[hm,aft]
theorem nH (x:Clause):iT x x=some true:=by
 simp[iT,kF,kF]
theorem mY (x:(List Clause)):iw x x=some true:=by
 unfold iw
 have hm:=cI (f:=ey x x) (r:=false) (λ_=>true) (xs:=x) rfl (λi y hy=>by
  unfold ey
  simp[bG,hy,nH])
 simp[hm,aft]
theorem FnExactEitherOf_of {p0:Sig}(ok0:Sig.ok p0){p1:(List Clause)}(ok1:(okS Clause.ok) p1) (hm:(List.length p1<=1048576/\∀y0∈p1,Clause.bd y0)->∃(r0:Int),gP p0 p1=some r0/\gL p0 p1=some r0):de p0 p1=some true:=by
 unfold de
 obtain⟨v1,e1,l1,b1⟩:=nL ok1 (m:=1048576) (by omega) (by omega)
 rw[e1,gs]
 by_cases g1:v1<0
 · simp only[g1,decide_true,cond_true]
 simp only[g1,decide_false,cond_false]
 have b1:=b1 (by omega)
 obtain⟨r0,hs,hi⟩:=hm b1
 simp(disch:=omega) only[rV (Sig.bdt _),oz b1,mY,hs,hi,gs,cond_true,cond_false,Bool.not_true,Bool.not_false,bne_self_eq_false,dlt]
end Go.Proofs.YtpcjbkgbnoocaaaGreat
