/- The structs opened; the sizes, the copies, the comparisons: plain laws. By program. -/
import Derived.Test.YtpcjbkgbnoocaaaGreatFnsMCO
import Derived.Test.YtpcjbkgbnoocaaaGreatLawCO
set_option linter.unusedVariables false
set_option linter.unusedSimpArgs false
open Option renaming bind_some → bA
open List renaming getElem?_eq_some_iff → bF, mem_of_getElem? → gs
namespace Go.Proofs.YtpcjbkgbnoocaaaGreat
open Go Go.Wk Go.Proofs
set_option maxRecDepth 100000
def Clause.ok (x:Clause):Prop:=I64 x.Kind/\(okS I64) x.A/\(okS I64) x.B
def Clause.bd (x:Clause):Prop:=True/\(List.length x.A<=1048576/\∀y0∈x.A,True)/\(List.length x.B<=1048576/\∀y0∈x.B,True)
theorem Clause.opn97:Opn Tryz.prog 97 Clause.rp Clause.ok:=
 so (ok:=λ(p:Int×(List Int)×(List Int))=>I64 p.1/\(okS I64) p.2.1/\(okS I64) p.2.2) _ (λp=>⟨p.1,p.2.1,p.2.2⟩) (λ_=>rfl) (oc Tryz.underlying97 rfl (by kernel_rfl) (mF rfl (by kernel_rfl) (mA Tryz.underlying2) (mF rfl (by kernel_rfl) (rZ Tryz.underlying29 (by kernel_rfl) rfl (mA Tryz.underlying2)) (qK rfl (by kernel_rfl) (rZ Tryz.underlying29 (by kernel_rfl) rfl (mA Tryz.underlying2))))))
def Sig.ok (x:Sig):Prop:=I64 x.In/\I64 x.Out
def Sig.bd (x:Sig):Prop:=True/\True
theorem Sig.bdt (x:Sig):Sig.bd x:=by unfold Sig.bd;simp
theorem Sig.opn43:Opn Tryz.prog 43 Sig.rp Sig.ok:=
 so (ok:=λ(p:Int×Int)=>I64 p.1/\I64 p.2) _ (λp=>⟨p.1,p.2⟩) (λ_=>rfl) (oc Tryz.underlying43 rfl (by kernel_rfl) (mF rfl (by kernel_rfl) (mA Tryz.underlying2) (qK rfl (by kernel_rfl) (mA Tryz.underlying2))))
def Rival.ok (x:Rival):Prop:=(okS I64) x.In/\(okS (okS I64)) x.Next
def Rival.bd (x:Rival):Prop:=(List.length x.In<=1048576/\∀y0∈x.In,True)/\(List.length x.Next<=1048576/\∀y0∈x.Next,(List.length y0<=1048576/\∀y1∈y0,True))
theorem cK {p0:(List Clause)}{c1_0:Sig}(g:Clause->Bool) (hp:∀x∈p0,dm x c1_0=some (g x)):bR p0 c1_0=some (match p0.findIdx? g with | some i=>(i:Int) | none=> -1):=by
 unfold bR
 rw[eT (f:=bP p0 c1_0) g (λi=>(i:Int)) (xs:=p0) (λi x hx=>by
  unfold bP
  rw[bG,hx,bA,hp x (gs hx),bA]
  cases g x <;> rfl),bA]
 cases p0.findIdx? g <;> rfl
theorem cH {p0:(List Clause)}{c1_0:Sig}(g:Clause->Bool) (hp:∀x∈p0,dm x c1_0=some (g x)):bQ p0 c1_0=some (p0.any g):=by
 unfold bQ
 rw[cK g hp,bA]
 exact congrArg some (mV g p0)
theorem fN (p0:List Int) (p1:Int):cj p0 p1=some (match p0.findIdx? (λx=>p1==x) with | some i=>(i:Int) | none=> -1):=by
 unfold cj
 rw[eT (f:=cr p0 p1) (λx=>p1==x) (λi=>(i:Int)) (xs:=p0) (λi x hx=>by
  unfold cr
  simp only[bG,hx,bA]
  cases p1==x <;> rfl),bA]
 cases p0.findIdx? (λx=>p1==x) <;> rfl
theorem cU (p0:List Int) (p1:Int):bN p0 p1=some (p0.any (λx=>p1==x)):=by
 unfold bN
 rw[fN,bA]
 exact congrArg some (mV _ p0)
theorem jO (p0 p1:List Int):cD p0 p1=some (decide (p0=p1)):=by
 unfold cD
 rw[uE]
 by_cases h:p0.length=p1.length
 · simp only[h,decide_true,Bool.not_true,cond_false]
   rw[show p1.length=p0.length from h.symm,sd (f:=cv p0 p1) (r:=false) (λx y=>decide (x=y)) h (λi x y hx hy=>by
    unfold cv
    rw[bG,hx,bA,bG,hy,bA]
    by_cases e:x=y
    · subst e;simp
    · have e':(x==y)=false:=by simp[e]
      simp[bne,e',e]),lP h]
   by_cases e:p0=p1
   · simp[e,aft]
   · simp[e,aft]
 · have:¬(p0=p1):=λe=>h (by rw[e])
   simp[h,this]
theorem cY {p0:(List Place)}{c1_0:Int}{c1_1:(List Int)}(g:Place->Bool) (hp:∀x∈p0,gX x c1_0 c1_1=some (g x)):bW p0 c1_0 c1_1=some (match p0.findIdx? g with | some i=>(i:Int) | none=> -1):=by
 unfold bW
 rw[eT (f:=bU p0 c1_0 c1_1) g (λi=>(i:Int)) (xs:=p0) (λi x hx=>by
  unfold bU
  rw[bG,hx,bA,hp x (gs hx),bA]
  cases g x <;> rfl),bA]
 cases p0.findIdx? g <;> rfl
theorem dS {p0:(List Int)}{c1_0:(List Place)}{c1_1:Int}(g:Int->Bool) (hp:∀x∈p0,fc x c1_0 c1_1=some (g x)):bV p0 c1_0 c1_1=some (match p0.findIdx? g with | some i=>(i:Int) | none=> -1):=by
 unfold bV
 rw[eT (f:=bX p0 c1_0 c1_1) g (λi=>(i:Int)) (xs:=p0) (λi x hx=>by
  unfold bX
  rw[bG,hx,bA,hp x (gs hx),bA]
  cases g x <;> rfl),bA]
 cases p0.findIdx? g <;> rfl
theorem kQ {x:(List Int)}(ok:(okS I64) x){m:Int}(h0:0<=m) (h1:m<=1048576):∃v,gE x m=some v/\v<=m/\(0<=v->(List.length x<=1048576/\∀y0∈x,True)):=by
 have hl:=ok.2
 unfold maxLen at hl
 unfold gE
 rw[wr' (by omega) (by omega)]
 by_cases h:m-(x.length:Int)<0
 · exact⟨-1,by simp[h],by omega,by omega⟩
 · exact⟨m-(x.length:Int),by simp only[h,decide_false,cond_false],by omega,λ_=>⟨by omega,λ_ _=>trivial⟩⟩
theorem nV {x:Clause}(ok:Clause.ok x){m:Int}(h0:0<=m) (h1:m<=1048576):∃v,jk x m=some v/\v<=m/\(0<=v->Clause.bd x):=by
 obtain⟨ok0,ok1,ok2⟩:=ok
 unfold jk
 obtain⟨v1,e1,l1,b1⟩:=kQ ok1 (m:=m) (by omega) (by omega)
 rw[e1,bA]
 by_cases g1:v1<0
 · exact⟨-1,by simp only[g1,decide_true,cond_true],by omega,by omega⟩
 simp only[g1,decide_false,cond_false]
 obtain⟨v2,e2,l2,b2⟩:=kQ ok2 (m:=v1) (by omega) (by omega)
 rw[e2,bA]
 by_cases g2:v2<0
 · exact⟨-1,by simp only[g2,decide_true,cond_true],by omega,by omega⟩
 simp only[g2,decide_false,cond_false]
 exact⟨_,rfl,by omega,λ_=>⟨trivial,b1 (by omega),b2 (by omega)⟩⟩
theorem nf {x:(List Clause)}(ok:(okS Clause.ok) x){m:Int}(h0:0<=m) (h1:m<=1048576):∃v,iq x m=some v/\v<=m/\(0<=v->(List.length x<=1048576/\∀y0∈x,Clause.bd y0)):=by
 have hl:=ok.2
 unfold maxLen at hl
 unfold iq
 rw[wr' (by omega) (by omega)]
 by_cases h:m-(x.length:Int)<0
 · exact⟨-1,by simp[h],by omega,by omega⟩
 simp only[h,decide_false,cond_false]
 obtain⟨o,ho,hm⟩:=nO (f:=eu x) (λj s=>0<=s/\s<=m/\∀(i:Nat) y,i<j->x[i]? =some y->Clause.bd y) (λr=>r= -1) (λ_=>False) x.length (s:=m-x.length) ⟨by omega,by omega,λ_ _ h=>absurd h (Nat.not_lt_zero _)⟩ (λj s hj hi=>by
  obtain⟨i0,i1,i2⟩:=hi
  have hx:x[j]? =some x[j]:=by simp[hj]
  obtain⟨v,hv,hvm,hb⟩:=nV (ok.1 _ (gs hx)) i0 (by omega)
  unfold eu
  rw[bG,hx,bA,hv,bA]
  by_cases hv0:v<0
  · exact⟨.inl (-1),by simp only[hv0,decide_true,cond_true],rfl⟩
  · refine⟨.inr (.inr v),by simp only[hv0,decide_false,cond_false],by omega,by omega,λi y hi hy=>?_⟩
    by_cases e:i=j
    · subst e;rw[hx]at hy;cases hy;exact hb (by omega)
    · exact i2 i y (by omega) hy)
 rw[ho,bA]
 match o,hm with
 | .inl r,hm=>exact⟨r,rfl,by have:r= -1:=hm;omega,λh=>by have:r= -1:=hm;omega⟩
 | .inr s,hm=>
  obtain⟨i0,i1,i2⟩:=hm.resolve_right id
  refine⟨s,rfl,by omega,λ_=>⟨by omega,λy hy=>?_⟩⟩
  obtain⟨i,hi⟩:=List.getElem?_of_mem hy
  exact i2 i y (bF.1 hi).1 hi
theorem r7 {x:Sig}(h:Sig.bd x):kY x=some x:=by
 rfl
theorem lA {x:(List Int)}(h:(List.length x<=1048576/\∀y0∈x,True)):gJ x=some x:=by
 unfold gJ
 rw[cJ h.1 rfl,bA]
 have hm:=qn (f:=fw x) id (xs:=x) (ys:=List.replicate x.length 0) (by simp) (λi y ys hy hi=>by
  unfold fw
  have hi2:ys[i]? =some ys[i]:=by simp[hi]
  simp only[bG,hy,hi2,bA,jK hi,id])
 rw[List.map_id]at hm
 rw[hm]
 rfl
theorem oD {x:Clause}(h:Clause.bd x):i7 x=some x:=by
 obtain⟨h0,h1,h2⟩:=h
 unfold i7
 simp only[lA h1,lA h2,bA]
theorem og {x:(List Clause)}(h:(List.length x<=1048576/\∀y0∈x,Clause.bd y0)):dO x=some x:=by
 unfold dO
 rw[cJ h.1 rfl,bA]
 have hm:=qn (f:=eg x) id (xs:=x) (ys:=List.replicate x.length ⟨0,[],[]⟩) (by simp) (λi y ys hy hi=>by
  unfold eg
  have hi2:ys[i]? =some ys[i]:=by simp[hi]
  simp only[bG,hy,hi2,bA,oD (h.2 y (gs hy)),jK hi,id])
 rw[List.map_id]at hm
 rw[hm]
 rfl
theorem fE (x:(List Int)):eo x x=some true:=by
 unfold eo
 have hm:=cS (f:=fp x x) (r:=false) (λ_=>true) (xs:=x) rfl (λi y hy=>by
  unfold fp
  simp[bG,hy])
 simp[hm,aft]
theorem mM (x:(List (List Int))):iy x x=some true:=by
 unfold iy
 have hm:=cS (f:=eq x x) (r:=false) (λ_=>true) (xs:=x) rfl (λi y hy=>by
  unfold eq
  simp[bG,hy,fE])
 simp[hm,aft]
theorem ou (x:Rival):gO x x=some true:=by
 simp[gO,fE,mM]
theorem ns (x:Clause):jc x x=some true:=by
 simp[jc,fE,fE]
theorem mN (x:(List Clause)):iw x x=some true:=by
 unfold iw
 have hm:=cS (f:=eD x x) (r:=false) (λ_=>true) (xs:=x) rfl (λi y hy=>by
  unfold eD
  simp[bG,hy,ns])
 simp[hm,aft]
theorem gA {x:(List Int)}{k:Int}(h0:0<=k) (h1:k+(ctL (λ_=>1) x:Nat)<=4611686018427387904):c9 x k=some (k+(ctL (λ_=>1) x:Nat),mkL (λ_=>1) (λk _=>k) k x):=by
 unfold c9
 rw[mU (λ_=>1) (λk _=>k) 4611686018427387904 (λi x k ys hx h0 h1=>by
  unfold fG
  simp only[bG,hx,bA]
  have hi:=(bF.1 hx).1
  have h1:k+1<=4611686018427387904:=h1
  rw[jK hi,bA,wr' (by omega) (by omega)]
  rfl) h0 h1]
 rfl
theorem my {x:(List Clause)}{k:Int}(h0:0<=k) (h1:k+(ctL (λx:Clause=>1+(ctL (λ_=>1)) x.A+(ctL (λ_=>1)) x.B) x:Nat)<=4611686018427387904):fg x k=some (k+(ctL (λx:Clause=>1+(ctL (λ_=>1)) x.A+(ctL (λ_=>1)) x.B) x:Nat),mkL (λx:Clause=>1+(ctL (λ_=>1)) x.A+(ctL (λ_=>1)) x.B) (λ(k:Int) (x:Clause)=>(⟨k,(mkL (λ_=>1) (λk _=>k)) (k+1) x.A,(mkL (λ_=>1) (λk _=>k)) (k+1+((ctL (λ_=>1)) x.A:Nat)) x.B⟩:Clause)) k x):=by
 unfold fg
 rw[mU (λx:Clause=>1+(ctL (λ_=>1)) x.A+(ctL (λ_=>1)) x.B) (λ(k:Int) (x:Clause)=>(⟨k,(mkL (λ_=>1) (λk _=>k)) (k+1) x.A,(mkL (λ_=>1) (λk _=>k)) (k+1+((ctL (λ_=>1)) x.A:Nat)) x.B⟩:Clause)) 4611686018427387904 (λi x k ys hx h0 h1=>by
  unfold eR
  have hi:=(bF.1 hx).1
  have h1:k+((1+(ctL (λ_=>1)) x.A+(ctL (λ_=>1)) x.B:Nat):Int)<=4611686018427387904:=h1
  simp(disch:=first | omega | simpa using hi) only[bG,hx,bA,wr',gA,jK,List.getElem?_set_self,List.set_set]
  simp only[Int.natCast_add,Int.add_assoc]
  rfl) h0 h1]
 rfl
theorem lW {x:(List (List Int))}{k:Int}(h0:0<=k) (h1:k+(ctL (ctL (λ_=>1)) x:Nat)<=4611686018427387904):fa x k=some (k+(ctL (ctL (λ_=>1)) x:Nat),mkL (ctL (λ_=>1)) (mkL (λ_=>1) (λk _=>k)) k x):=by
 unfold fa
 rw[mU (ctL (λ_=>1)) (mkL (λ_=>1) (λk _=>k)) 4611686018427387904 (λi x k ys hx h0 h1=>by
  unfold eU
  simp only[bG,hx,bA]
  have hi:=(bF.1 hx).1
  rw[gA h0 h1,bA,jK hi,bA]) h0 h1]
 rfl
theorem nt {x:Rival}{k:Int}(h0:0<=k) (h1:k+((ctL (λ_=>1)) x.In:Nat)+((ctL (ctL (λ_=>1))) x.Next:Nat)<=4611686018427387904):ir x k=some (k+((ctL (λ_=>1)) x.In:Nat)+((ctL (ctL (λ_=>1))) x.Next:Nat),(mkL (λ_=>1) (λk _=>k)) (k) x.In,(mkL (ctL (λ_=>1)) (mkL (λ_=>1) (λk _=>k))) (k+((ctL (λ_=>1)) x.In:Nat)) x.Next):=by
 unfold ir
 simp(disch:=omega) only[lW,gA,bA]
theorem j8 {x:(List Int)}{k:Int}(h0:0<=k) (h1:k+(ctL (λ_=>1) x:Nat)<=4611686018427387904):eS (mkL (λ_=>1) (λk _=>k) k x) k=some (k+(ctL (λ_=>1) x:Nat)):=by
 unfold eS
 rw[pj (λ_=>1) (λk _=>k) 4611686018427387904 (λi x k' hx h0 h1=>by
  unfold fF
  have h1:k'+1<=4611686018427387904:=h1
  simp only[bG,hx,bA,bne_self_eq_false,cond_false]
  rw[wr' (by omega) (by omega)]
  rfl) h0 h1]
 rfl
theorem mg {x:(List (List Int))}{k:Int}(h0:0<=k) (h1:k+(ctL (ctL (λ_=>1)) x:Nat)<=4611686018427387904):fi (mkL (ctL (λ_=>1)) (mkL (λ_=>1) (λk _=>k)) k x) k=some (k+(ctL (ctL (λ_=>1)) x:Nat)):=by
 unfold fi
 rw[pj (ctL (λ_=>1)) (mkL (λ_=>1) (λk _=>k)) 4611686018427387904 (λi x k' hx h0 h1=>by
  unfold eP
  simp only[bG,hx,bA]
  rw[j8 h0 h1,bA]
  simp(disch:=omega) only[dlt,cond_false]) h0 h1]
 rfl
theorem nk {x:Rival}{k:Int}(h0:0<=k) (h1:k+((ctL (λ_=>1)) x.In:Nat)+((ctL (ctL (λ_=>1))) x.Next:Nat)<=4611686018427387904):fP (⟨((mkL (λ_=>1) (λk _=>k)) (k) x.In),((mkL (ctL (λ_=>1)) (mkL (λ_=>1) (λk _=>k))) (k+((ctL (λ_=>1)) x.In:Nat)) x.Next)⟩:Rival) k=some (k+((ctL (λ_=>1)) x.In:Nat)+((ctL (ctL (λ_=>1))) x.Next:Nat)):=by
 unfold fP
 simp(disch:=omega) only[mg,j8,bA,dlt,cond_false]
theorem FnExactCounterOf_of {p0:Sig}(ok0:Sig.ok p0){p1:(List Clause)}(ok1:(okS Clause.ok) p1) (hm:(List.length p1<=1048576/\∀y0∈p1,Clause.bd y0)->∃(r0:Rival) (r1:Bool),ej p0 p1=some (r0,r1)/\dM p0 p1=some (r0,r1)/\((ctL (λ_=>1)) r0.In:Nat)<=1000000000000000/\((ctL (ctL (λ_=>1))) r0.Next:Nat)<=1000000000000000):cV p0 p1=some true:=by
 unfold cV
 obtain⟨v1,e1,l1,b1⟩:=nf ok1 (m:=1048576) (by omega) (by omega)
 rw[e1,bA]
 by_cases g1:v1<0
 · simp only[g1,decide_true,cond_true]
 simp only[g1,decide_false,cond_false]
 have b1:=b1 (by omega)
 obtain⟨r0,r1,hs,hi,c0,c1⟩:=hm b1
 have d1:=b1
 have c1_0:((ctL (λx:Clause=>1+(ctL (λ_=>1)) x.A+(ctL (λ_=>1)) x.B)) p1:Nat)<=2199024304128:=(pC b1.1 λ_ hx=>(Nat.add_le_add (Nat.add_le_add (Nat.le_refl 1) (pC (b1.2 _ hx).2.1.1 λ_ _=>Nat.le_refl 1)) (pC (b1.2 _ hx).2.2.1 λ_ _=>Nat.le_refl 1)))
 simp(disch:=omega) only[r7 (Sig.bdt _),og b1,mN,ou,my,nt,nk,hs,hi,bA,cond_true,cond_false,Bool.not_true,Bool.not_false,bne_self_eq_false,dlt]
end Go.Proofs.YtpcjbkgbnoocaaaGreat
