/- The structs opened; the sizes, the copies, the comparisons: plain laws. By program. -/
import Derived.Test.YtpcjbkgbnoocaaaGreatFnsMMO
import Derived.Test.YtpcjbkgbnoocaaaGreatLawMO
set_option linter.unusedVariables false
set_option linter.unusedSimpArgs false
open Option renaming bind_some → ds
open List renaming getElem?_eq_some_iff → hV, mem_of_getElem? → sh
namespace Go.Proofs.YtpcjbkgbnoocaaaGreat
open Go Go.Wk Go.Proofs
set_option maxRecDepth 100000
def Clause.ok (x:Clause):Prop:=I64 x.Kind/\(okS I64) x.A/\(okS I64) x.B
def Clause.bd (x:Clause):Prop:=True/\(List.length x.A<=1048576/\∀y0∈x.A,True)/\(List.length x.B<=1048576/\∀y0∈x.B,True)
theorem Clause.opn97:Opn Tryz.prog 97 Clause.rp Clause.ok:=
 tM (ok:=λ(p:Int×(List Int)×(List Int))=>I64 p.1/\(okS I64) p.2.1/\(okS I64) p.2.2) _ (λp=>⟨p.1,p.2.1,p.2.2⟩) (λ_=>rfl) (pC Tryz.underlying97 rfl (by kernel_rfl) (nZ rfl (by kernel_rfl) (nc Tryz.underlying2) (nZ rfl (by kernel_rfl) (tp Tryz.underlying29 (by kernel_rfl) rfl (nc Tryz.underlying2)) (sd rfl (by kernel_rfl) (tp Tryz.underlying29 (by kernel_rfl) rfl (nc Tryz.underlying2))))))
def Sig.ok (x:Sig):Prop:=I64 x.In/\I64 x.Out
def Sig.bd (x:Sig):Prop:=True/\True
theorem Sig.bdt (x:Sig):Sig.bd x:=by unfold Sig.bd;simp
theorem Sig.opn43:Opn Tryz.prog 43 Sig.rp Sig.ok:=
 tM (ok:=λ(p:Int×Int)=>I64 p.1/\I64 p.2) _ (λp=>⟨p.1,p.2⟩) (λ_=>rfl) (pC Tryz.underlying43 rfl (by kernel_rfl) (nZ rfl (by kernel_rfl) (nc Tryz.underlying2) (sd rfl (by kernel_rfl) (nc Tryz.underlying2))))
def Machine.ok (x:Machine):Prop:=(okS (okS I64)) x.Next/\(okS (okS I64)) x.Out
def Machine.bd (x:Machine):Prop:=(List.length x.Next<=1048576/\∀y0∈x.Next,(List.length y0<=1048576/\∀y1∈y0,True))/\(List.length x.Out<=1048576/\∀y0∈x.Out,(List.length y0<=1048576/\∀y1∈y0,True))
theorem c9 {p0:(List Clause)}{c1_0:Sig}(g:Clause->Bool) (hp:∀x∈p0,dS x c1_0=some (g x)):bU p0 c1_0=some (match p0.findIdx? g with | some i=>(i:Int) | none=> -1):=by
 unfold bU
 rw[fC (f:=bR p0 c1_0) g (λi=>(i:Int)) (xs:=p0) (λi x hx=>by
  unfold bR
  rw[bH,hx,ds,hp x (sh hx),ds]
  cases g x <;> rfl),ds]
 cases p0.findIdx? g <;> rfl
theorem cU {p0:(List Clause)}{c1_0:Sig}(g:Clause->Bool) (hp:∀x∈p0,dS x c1_0=some (g x)):bS p0 c1_0=some (p0.any g):=by
 unfold bS
 rw[c9 g hp,ds]
 exact congrArg some (mb g p0)
theorem gt (p0:List Int) (p1:Int):cw p0 p1=some (match p0.findIdx? (λx=>p1==x) with | some i=>(i:Int) | none=> -1):=by
 unfold cw
 rw[fC (f:=cH p0 p1) (λx=>p1==x) (λi=>(i:Int)) (xs:=p0) (λi x hx=>by
  unfold cH
  simp only[bH,hx,ds]
  cases p1==x <;> rfl),ds]
 cases p0.findIdx? (λx=>p1==x) <;> rfl
theorem dk (p0:List Int) (p1:Int):bQ p0 p1=some (p0.any (λx=>p1==x)):=by
 unfold bQ
 rw[gt,ds]
 exact congrArg some (mb _ p0)
theorem kF (p0 p1:List Int):cT p0 p1=some (decide (p0=p1)):=by
 unfold cT
 rw[wv]
 by_cases h:p0.length=p1.length
 · simp only[h,decide_true,Bool.not_true,cond_false]
   rw[show p1.length=p0.length from h.symm,tI (f:=cK p0 p1) (r:=false) (λx y=>decide (x=y)) h (λi x y hx hy=>by
    unfold cK
    rw[bH,hx,ds,bH,hy,ds]
    by_cases e:x=y
    · subst e;simp
    · have e':(x==y)=false:=by simp[e]
      simp[bne,e',e]),mL h]
   by_cases e:p0=p1
   · simp[e,aft]
   · simp[e,aft]
 · have:¬(p0=p1):=λe=>h (by rw[e])
   simp[h,this]
theorem dt {p0:(List Place)}{c1_0:Int}{c1_1:(List Int)}(g:Place->Bool) (hp:∀x∈p0,iL x c1_0 c1_1=some (g x)):bY p0 c1_0 c1_1=some (match p0.findIdx? g with | some i=>(i:Int) | none=> -1):=by
 unfold bY
 rw[fC (f:=bW p0 c1_0 c1_1) g (λi=>(i:Int)) (xs:=p0) (λi x hx=>by
  unfold bW
  rw[bH,hx,ds,hp x (sh hx),ds]
  cases g x <;> rfl),ds]
 cases p0.findIdx? g <;> rfl
theorem eu {p0:(List Int)}{c1_0:(List Place)}{c1_1:Int}{c1_2:Int}{c1_3:Sig}{c1_4:Int}(g:Int->Bool) (hp:∀x∈p0,fY x c1_0 c1_1 c1_2 c1_3 c1_4=some (g x)):bX p0 c1_0 c1_1 c1_2 c1_3 c1_4=some (match p0.findIdx? g with | some i=>(i:Int) | none=> -1):=by
 unfold bX
 rw[fC (f:=cc p0 c1_0 c1_1 c1_2 c1_3 c1_4) g (λi=>(i:Int)) (xs:=p0) (λi x hx=>by
  unfold cc
  rw[bH,hx,ds,hp x (sh hx),ds]
  cases g x <;> rfl),ds]
 cases p0.findIdx? g <;> rfl
theorem d9 {p0:(List Int)}{c1_0:Int}(g:Int->Bool) (hp:∀x∈p0,dH x c1_0=some (g x)):cg p0 c1_0=some (match p0.findIdx? g with | some i=>(i:Int) | none=> -1):=by
 unfold cg
 rw[fC (f:=ca p0 c1_0) g (λi=>(i:Int)) (xs:=p0) (λi x hx=>by
  unfold ca
  rw[bH,hx,ds,hp x (sh hx),ds]
  cases g x <;> rfl),ds]
 cases p0.findIdx? g <;> rfl
theorem dC {p0:(List Int)}{c1_0:Int}(g:Int->Bool) (hp:∀x∈p0,dH x c1_0=some (g x)):cb p0 c1_0=some (p0.any g):=by
 unfold cb
 rw[d9 g hp,ds]
 exact congrArg some (mb g p0)
theorem lI {x:(List Int)}(ok:(okS I64) x){m:Int}(h0:0<=m) (h1:m<=1048576):∃v,iq x m=some v/\v<=m/\(0<=v->(List.length x<=1048576/\∀y0∈x,True)):=by
 have hl:=ok.2
 unfold maxLen at hl
 unfold iq
 rw[wr' (by omega) (by omega)]
 by_cases h:m-(x.length:Int)<0
 · exact⟨-1,by simp[h],by omega,by omega⟩
 · exact⟨m-(x.length:Int),by simp only[h,decide_false,cond_false],by omega,λ_=>⟨by omega,λ_ _=>trivial⟩⟩
theorem oP {x:Clause}(ok:Clause.ok x){m:Int}(h0:0<=m) (h1:m<=1048576):∃v,kb x m=some v/\v<=m/\(0<=v->Clause.bd x):=by
 obtain⟨ok0,ok1,ok2⟩:=ok
 unfold kb
 obtain⟨v1,e1,l1,b1⟩:=lI ok1 (m:=m) (by omega) (by omega)
 rw[e1,ds]
 by_cases g1:v1<0
 · exact⟨-1,by simp only[g1,decide_true,cond_true],by omega,by omega⟩
 simp only[g1,decide_false,cond_false]
 obtain⟨v2,e2,l2,b2⟩:=lI ok2 (m:=v1) (by omega) (by omega)
 rw[e2,ds]
 by_cases g2:v2<0
 · exact⟨-1,by simp only[g2,decide_true,cond_true],by omega,by omega⟩
 simp only[g2,decide_false,cond_false]
 exact⟨_,rfl,by omega,λ_=>⟨trivial,b1 (by omega),b2 (by omega)⟩⟩
theorem oq {x:(List Clause)}(ok:(okS Clause.ok) x){m:Int}(h0:0<=m) (h1:m<=1048576):∃v,jc x m=some v/\v<=m/\(0<=v->(List.length x<=1048576/\∀y0∈x,Clause.bd y0)):=by
 have hl:=ok.2
 unfold maxLen at hl
 unfold jc
 rw[wr' (by omega) (by omega)]
 by_cases h:m-(x.length:Int)<0
 · exact⟨-1,by simp[h],by omega,by omega⟩
 simp only[h,decide_false,cond_false]
 obtain⟨o,ho,hm⟩:=oX (f:=ff x) (λj s=>0<=s/\s<=m/\∀(i:Nat) y,i<j->x[i]? =some y->Clause.bd y) (λr=>r= -1) (λ_=>False) x.length (s:=m-x.length) ⟨by omega,by omega,λ_ _ h=>absurd h (Nat.not_lt_zero _)⟩ (λj s hj hi=>by
  obtain⟨i0,i1,i2⟩:=hi
  have hx:x[j]? =some x[j]:=by simp[hj]
  obtain⟨v,hv,hvm,hb⟩:=oP (ok.1 _ (sh hx)) i0 (by omega)
  unfold ff
  rw[bH,hx,ds,hv,ds]
  by_cases hv0:v<0
  · exact⟨.inl (-1),by simp only[hv0,decide_true,cond_true],rfl⟩
  · refine⟨.inr (.inr v),by simp only[hv0,decide_false,cond_false],by omega,by omega,λi y hi hy=>?_⟩
    by_cases e:i=j
    · subst e;rw[hx]at hy;cases hy;exact hb (by omega)
    · exact i2 i y (by omega) hy)
 rw[ho,ds]
 match o,hm with
 | .inl r,hm=>exact⟨r,rfl,by have:r= -1:=hm;omega,λh=>by have:r= -1:=hm;omega⟩
 | .inr s,hm=>
  obtain⟨i0,i1,i2⟩:=hm.resolve_right id
  refine⟨s,rfl,by omega,λ_=>⟨by omega,λy hy=>?_⟩⟩
  obtain⟨i,hi⟩:=List.getElem?_of_mem hy
  exact i2 i y (hV.1 hi).1 hi
theorem sV {x:Sig}(h:Sig.bd x):mg x=some x:=by
 rfl
theorem my {x:(List Int)}(h:(List.length x<=1048576/\∀y0∈x,True)):iH x=some x:=by
 unfold iH
 rw[cY h.1 rfl,ds]
 have hm:=rj (f:=fZ x) id (xs:=x) (ys:=List.replicate x.length 0) (by simp) (λi y ys hy hi=>by
  unfold fZ
  have hi2:ys[i]? =some ys[i]:=by simp[hi]
  simp only[bH,hy,hi2,ds,kO hi,id])
 rw[List.map_id]at hm
 rw[hm]
 rfl
theorem p7 {x:Clause}(h:Clause.bd x):jx x=some x:=by
 obtain⟨h0,h1,h2⟩:=h
 unfold jx
 simp only[my h1,my h2,ds]
theorem oU {x:(List Clause)}(h:(List.length x<=1048576/\∀y0∈x,Clause.bd y0)):ej x=some x:=by
 unfold ej
 rw[cY h.1 rfl,ds]
 have hm:=rj (f:=fp x) id (xs:=x) (ys:=List.replicate x.length ⟨0,[],[]⟩) (by simp) (λi y ys hy hi=>by
  unfold fp
  have hi2:ys[i]? =some ys[i]:=by simp[hi]
  simp only[bH,hy,hi2,ds,p7 (h.2 y (sh hy)),kO hi,id])
 rw[List.map_id]at hm
 rw[hm]
 rfl
theorem jl (x:(List Int)):gq x x=some true:=by
 unfold gq
 have hm:=cQ (f:=fW x x) (r:=false) (λ_=>true) (xs:=x) rfl (λi y hy=>by
  unfold fW
  simp[bH,hy])
 simp[hm,aft]
theorem kW (x:(List (List Int))):gv x x=some true:=by
 unfold gv
 have hm:=cQ (f:=fk x x) (r:=false) (λ_=>true) (xs:=x) rfl (λi y hy=>by
  unfold fk
  simp[bH,hy,jl])
 simp[hm,aft]
theorem nP (x:Machine):fc x x=some true:=by
 simp[fc,kW,kW]
theorem oB (x:Clause):jP x x=some true:=by
 simp[jP,jl,jl]
theorem nQ (x:(List Clause)):iU x x=some true:=by
 unfold iU
 have hm:=cQ (f:=eU x x) (r:=false) (λ_=>true) (xs:=x) rfl (λi y hy=>by
  unfold eU
  simp[bH,hy,oB])
 simp[hm,aft]
theorem kS {x:(List Int)}{k:Int}(h0:0<=k) (h1:k+(ctL (λ_=>1) x:Nat)<=4611686018427387904):ek x k=some (k+(ctL (λ_=>1) x:Nat),mkL (λ_=>1) (λk _=>k) k x):=by
 unfold ek
 rw[nR (λ_=>1) (λk _=>k) 4611686018427387904 (λi x k ys hx h0 h1=>by
  unfold go
  simp only[bH,hx,ds]
  have hi:=(hV.1 hx).1
  have h1:k+1<=4611686018427387904:=h1
  rw[kO hi,ds,wr' (by omega) (by omega)]
  rfl) h0 h1]
 rfl
theorem mU {x:(List Clause)}{k:Int}(h0:0<=k) (h1:k+(ctL (λx:Clause=>1+(ctL (λ_=>1)) x.A+(ctL (λ_=>1)) x.B) x:Nat)<=4611686018427387904):gl x k=some (k+(ctL (λx:Clause=>1+(ctL (λ_=>1)) x.A+(ctL (λ_=>1)) x.B) x:Nat),mkL (λx:Clause=>1+(ctL (λ_=>1)) x.A+(ctL (λ_=>1)) x.B) (λ(k:Int) (x:Clause)=>(⟨k,(mkL (λ_=>1) (λk _=>k)) (k+1) x.A,(mkL (λ_=>1) (λk _=>k)) (k+1+((ctL (λ_=>1)) x.A:Nat)) x.B⟩:Clause)) k x):=by
 unfold gl
 rw[nR (λx:Clause=>1+(ctL (λ_=>1)) x.A+(ctL (λ_=>1)) x.B) (λ(k:Int) (x:Clause)=>(⟨k,(mkL (λ_=>1) (λk _=>k)) (k+1) x.A,(mkL (λ_=>1) (λk _=>k)) (k+1+((ctL (λ_=>1)) x.A:Nat)) x.B⟩:Clause)) 4611686018427387904 (λi x k ys hx h0 h1=>by
  unfold fG
  have hi:=(hV.1 hx).1
  have h1:k+((1+(ctL (λ_=>1)) x.A+(ctL (λ_=>1)) x.B:Nat):Int)<=4611686018427387904:=h1
  simp(disch:=first | omega | simpa using hi) only[bH,hx,ds,wr',kS,kO,List.getElem?_set_self,List.set_set]
  simp only[Int.natCast_add,Int.add_assoc]
  rfl) h0 h1]
 rfl
theorem ns {x:(List (List Int))}{k:Int}(h0:0<=k) (h1:k+(ctL (ctL (λ_=>1)) x:Nat)<=4611686018427387904):eJ x k=some (k+(ctL (ctL (λ_=>1)) x:Nat),mkL (ctL (λ_=>1)) (mkL (λ_=>1) (λk _=>k)) k x):=by
 unfold eJ
 rw[nR (ctL (λ_=>1)) (mkL (λ_=>1) (λk _=>k)) 4611686018427387904 (λi x k ys hx h0 h1=>by
  unfold fB
  simp only[bH,hx,ds]
  have hi:=(hV.1 hx).1
  rw[kS h0 h1,ds,kO hi,ds]) h0 h1]
 rfl
theorem m5 {x:Machine}{k:Int}(h0:0<=k) (h1:k+((ctL (ctL (λ_=>1))) x.Next:Nat)+((ctL (ctL (λ_=>1))) x.Out:Nat)<=4611686018427387904):fP x k=some (k+((ctL (ctL (λ_=>1))) x.Next:Nat)+((ctL (ctL (λ_=>1))) x.Out:Nat),(mkL (ctL (λ_=>1)) (mkL (λ_=>1) (λk _=>k))) (k) x.Next,(mkL (ctL (λ_=>1)) (mkL (λ_=>1) (λk _=>k))) (k+((ctL (ctL (λ_=>1))) x.Next:Nat)) x.Out):=by
 unfold fP
 simp(disch:=omega) only[ns,ds]
theorem nJ {x:(List Int)}{k:Int}(h0:0<=k) (h1:k+(ctL (λ_=>1) x:Nat)<=4611686018427387904):gY (mkL (λ_=>1) (λk _=>k) k x) k=some (k+(ctL (λ_=>1) x:Nat)):=by
 unfold gY
 rw[qr (λ_=>1) (λk _=>k) 4611686018427387904 (λi x k' hx h0 h1=>by
  unfold gp
  have h1:k'+1<=4611686018427387904:=h1
  simp only[bH,hx,ds,bne_self_eq_false,cond_false]
  rw[wr' (by omega) (by omega)]
  rfl) h0 h1]
 rfl
theorem nC {x:(List (List Int))}{k:Int}(h0:0<=k) (h1:k+(ctL (ctL (λ_=>1)) x:Nat)<=4611686018427387904):eN (mkL (ctL (λ_=>1)) (mkL (λ_=>1) (λk _=>k)) k x) k=some (k+(ctL (ctL (λ_=>1)) x:Nat)):=by
 unfold eN
 rw[qr (ctL (λ_=>1)) (mkL (λ_=>1) (λk _=>k)) 4611686018427387904 (λi x k' hx h0 h1=>by
  unfold fF
  simp only[bH,hx,ds]
  rw[nJ h0 h1,ds]
  simp(disch:=omega) only[dlt,cond_false]) h0 h1]
 rfl
theorem nr {x:Machine}{k:Int}(h0:0<=k) (h1:k+((ctL (ctL (λ_=>1))) x.Next:Nat)+((ctL (ctL (λ_=>1))) x.Out:Nat)<=4611686018427387904):eE (⟨((mkL (ctL (λ_=>1)) (mkL (λ_=>1) (λk _=>k))) (k) x.Next),((mkL (ctL (λ_=>1)) (mkL (λ_=>1) (λk _=>k))) (k+((ctL (ctL (λ_=>1))) x.Next:Nat)) x.Out)⟩:Machine) k=some (k+((ctL (ctL (λ_=>1))) x.Next:Nat)+((ctL (ctL (λ_=>1))) x.Out:Nat)):=by
 unfold eE
 simp(disch:=omega) only[nC,ds,dlt,cond_false]
theorem FnExactMachineOf_of {p0:Sig}(ok0:Sig.ok p0){p1:(List Clause)}(ok1:(okS Clause.ok) p1) (hm:(List.length p1<=1048576/\∀y0∈p1,Clause.bd y0)->∃(r0:Machine) (r1:Bool),fl p0 p1=some (r0,r1)/\eh p0 p1=some (r0,r1)/\((ctL (ctL (λ_=>1))) r0.Next:Nat)<=1000000000000000/\((ctL (ctL (λ_=>1))) r0.Out:Nat)<=1000000000000000):dh p0 p1=some true:=by
 unfold dh
 obtain⟨v1,e1,l1,b1⟩:=oq ok1 (m:=1048576) (by omega) (by omega)
 rw[e1,ds]
 by_cases g1:v1<0
 · simp only[g1,decide_true,cond_true]
 simp only[g1,decide_false,cond_false]
 have b1:=b1 (by omega)
 obtain⟨r0,r1,hs,hi,c0,c1⟩:=hm b1
 have d1:=b1
 have c1_0:((ctL (λx:Clause=>1+(ctL (λ_=>1)) x.A+(ctL (λ_=>1)) x.B)) p1:Nat)<=2199024304128:=(pB b1.1 λ_ hx=>(Nat.add_le_add (Nat.add_le_add (Nat.le_refl 1) (pB (b1.2 _ hx).2.1.1 λ_ _=>Nat.le_refl 1)) (pB (b1.2 _ hx).2.2.1 λ_ _=>Nat.le_refl 1)))
 simp(disch:=omega) only[sV (Sig.bdt _),oU b1,nQ,nP,mU,m5,nr,hs,hi,ds,cond_true,cond_false,Bool.not_true,Bool.not_false,bne_self_eq_false,dlt]
end Go.Proofs.YtpcjbkgbnoocaaaGreat
