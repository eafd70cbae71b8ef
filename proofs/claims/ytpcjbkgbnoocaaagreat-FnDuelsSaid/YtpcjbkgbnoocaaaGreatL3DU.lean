/- The loop of MachineOf: both sides compute the same. -/
import Derived.Test.YtpcjbkgbnoocaaaGreatL2DU
import Derived.Test.YtpcjbkgbnoocaaaGreatL0DU
set_option linter.unusedVariables false
set_option linter.unusedSimpArgs false
open Option renaming bind → bu, bind_some → bz
open List renaming getElem?_eq_getElem → bB, getElem?_eq_some_iff → gs, mem_of_getElem? → it, length_append → yq, mem_singleton → yr, length_take → yv, length_nil → yw, mem_append → yz, length_set → yB, length_map → yC
open Int renaming toNat → yn
open Bool renaming and_eq_true → yo, not_true → yp
namespace Go.Proofs.YtpcjbkgbnoocaaaGreat
open Go Go.Wk Go.Proofs
def outsL (d:Det) (m k q i:Nat) (z:Int):List Int:=((List.range k).filter λo=>tab d.Next q ((o * m+i:Nat):Int)==z).map Int.ofNat
def outF (d:Det) (m k q i:Nat) (z:Int):Int:=(outsL d m k q i z).getD 0 0
theorem qL (d:Det) (m k q i:Nat) (z:Int):(outsL d m k q i z).length<=k:=by
 unfold outsL
 rw[yC]
 exact Nat.le_trans (List.length_filter_le ..) (by rw[List.length_range];exact Nat.le_refl _)
theorem pY (d:Det) (m j q i:Nat) (z:Int):outsL d m (j+1) q i z=outsL d m j q i z++(if(tab d.Next q ((j * m+i:Nat):Int)==z)=true then[(j:Int)] else[]):=by
 unfold outsL
 rw[List.range_succ,List.filter_append,List.map_append]
 congr 1
 rw[List.filter_cons,List.filter_nil]
 cases tab d.Next q ((j * m+i:Nat):Int)==z <;> rfl
theorem vZ {d:Det}{m k q i o:Nat}{z:Int}(ho:o<k) (h:z=tab d.Next q ((o * m+i:Nat):Int)):idx (outsL d m k q i z) 0=some (outF d m k q i z)/\0<=outF d m k q i z/\outF d m k q i z<(k:Int):=by
 have hm:(o:Int)∈outsL d m k q i z:=List.mem_map.2 ⟨o,List.mem_filter.2 ⟨List.mem_range.2 ho,by simp[h]⟩,rfl⟩
 have hl:=List.length_pos_of_mem hm
 have hx:(outsL d m k q i z)[0]? =some ((outsL d m k q i z)[0]'hl):=bB hl
 have e:outF d m k q i z=(outsL d m k q i z)[0]'hl:=by
  unfold outF
  rw[List.getD_eq_getElem?_getD,hx];rfl
 rw[e]
 refine⟨by rw[show(0:Int)=((0:Nat):Int) from rfl,bC];exact hx,?_⟩
 have:=List.getElem_mem hl
 generalize(outsL d m k q i z)[0]'hl=y at this
 unfold outsL at this
 obtain⟨o',h1,h2⟩:=List.mem_map.1 this
 have:=List.mem_range.1 (List.mem_filter.1 h1).1
 have h2:(o':Int)=y:=h2
 omega
theorem uU {P:List Place}{r:List Int}{z:Int}{j:Nat}(h:toP P r z=some j):r[j]? =some (tgt P r z)/\atP P (tgt P r z)=z/\∀(i:Nat) y,i<j->r[i]? =some y->atP P y≠z:=by
 have h':=h
 unfold toP at h
 obtain⟨h1,h2,h3⟩:=List.findIdx?_eq_some_iff_getElem.1 h
 have e:tgt P r z=r[j]:=by
  unfold tgt
  rw[h']
  show r.getD j 0=_
  rw[List.getD_eq_getElem?_getD,bB h1];rfl
 rw[e]
 refine⟨bB h1,by simpa using h2,λi y hi hy=>?_⟩
 have:=h3 i hi
 obtain⟨hl,e'⟩:=gs.1 hy
 rw[e']at this
 simpa using this
theorem xf {g:Parity}{P:List Place}{x:Int}{r:List Int}(hr:idx g.Arena.Next x=some r) (hl:r.length<=16) (hR:∀y∈r,Xn P.length y){z:Int}(h:∃y∈r,atP P y=z):nR g P x z=some (tgt P r z):=by
 obtain⟨_,_,j,hj,_⟩:=rI h
 obtain⟨t1,t2,t3⟩:=uU hj
 have hjl:=(gs.1 t1).1
 unfold nR
 obtain⟨o,w1,w2⟩:=bY (f:=kb g P x z) (λq (s:Int)=>s=(q:Int)/\q<=j) (λy=>y=tgt P r z) (λ_=>False) j (λq s ⟨e,hq⟩=>by
  subst e
  have hy:r[q]? =some (r[q]'(by omega)):=bB (by omega)
  generalize r[q]'(by omega)=y at hy
  obtain⟨v,hv,_⟩:=cJ (xs:=P) (hR y (it hy)).1 (hR y (it hy)).2
  unfold kb
  rw[hr,bz,decide_eq_true (show(q:Int)<(r.length:Int) by omega),cond_true,bz,bC,hy,bz,hv,bz]
  by_cases e:q=j
  · subst e
    rw[t1]at hy
    cases hy
    rw[ff hv]at t2
    rw[show(v.At==z)=true from by simpa using t2]
    exact⟨_,rfl,rfl⟩
  · have:=t3 q y (by omega) hy
    rw[ff hv]at this
    rw[show(v.At==z)=false from by simpa using this,cond_false,wr' (by omega) (by omega)]
    exact⟨_,rfl,by omega,by omega,by omega⟩) (2 ^ 64) 0 0 (by omega) ⟨rfl,Nat.zero_le _⟩ (by omega)
 match o,w2 with
 | .inl y,e=>rw[w1,e];rfl
theorem tK {F:List Int}(t:Int) (hl:F.length<=1000):(bif decide (cS F t<0) then bu (appS 8 F [t]) λx=>some x else some F)=some (addN F t):=by
 by_cases h:t∈F
 · rw[decide_eq_false (by have:=(oK h).1;omega),cond_false]
   unfold addN
   rw[if_pos h]
 · rw[oI h,decide_eq_true (by omega),cond_true,app1 (by omega) rfl]
   unfold addN
   rw[if_neg h];rfl
theorem mH (f:Nat->Int) (F:List Int):∀j,F.length<=(cC f F j).1.length/\(cC f F j).1.length<=F.length+j/\(cC f F j).2.length=j
 | 0=>⟨Nat.le_refl _,Nat.le_refl _,rfl⟩
 | j+1=>by
  obtain⟨a,b,c⟩:=mH f F j
  have h:(cC f F j).1.length<=(addN (cC f F j).1 (f j)).length/\(addN (cC f F j).1 (f j)).length<=(cC f F j).1.length+1:=by
   unfold addN
   split
   · omega
   · rw[yq];simp
  refine⟨?_,?_,?_⟩
  · show _<=(addN _ _).length;omega
  · show(addN _ _).length<=_;omega
  · show((cC f F j).2++[_]).length=_;rw[yq,c];rfl
section
variable {p:Sig}(hs:sigOk p=true){d:Det}(hd:detOk p d=true) (hpb:∀x∈d.Pairs,x.Ask.length<=1000000000/\x.Give.length<=1000000000){n m k:Nat}{A:Arena}{P:List Place}{g:Parity}{W:Int->Prop}{pk wn:List Int}(h:Cx d n m k A P g W pk) (hm:pw p.In=(m:Int)) (hk:pw p.Out=(k:Int))
include hs hd hpb h hm hk
omit hk in
theorem vM {q i:Nat}(hq:q<n) (hi:i<m):jT p d q i=some (((n+(q * m+i):Nat):Int)):=by
 have hn48:=h.n48
 have hm4:=h.m4
 have hlt:=oQ (n:=n) hq hi
 have hnm:n * m<=48 * 4:=Nat.mul_le_mul hn48 hm4
 have e:(q:Int) * (m:Int)=((q * m:Nat):Int):=by simp
 have hsi:cH p=some (m:Int):=by rw[lT hs,hm]
 unfold jT
 rw[gp hs hpb,hd,bz,yp,cond_false,h.dl,wr' (z:=(n:Int)-1) (by omega) (by omega),cz,decide_eq_true (show(0:Int)<=(q:Int) by omega),decide_eq_true (show(q:Int)<=(n:Int)-1 by omega),Bool.and_self,bz,bz,yp,cond_false,hsi,bz,wr' (z:=(m:Int)-1) (by omega) (by omega),cz,decide_eq_true (show(-1:Int)<=(i:Int) by omega),decide_eq_true (show(i:Int)<=(m:Int)-1 by omega),Bool.and_self,bz,bz,yp,cond_false,show((i:Int)== -1)=false from by rw[beq_eq_false_iff_ne];omega,cond_false,bz,e,wr' (z:=((q * m:Nat):Int)) (by omega) (by omega),wr' (z:=(n:Int)+((q * m:Nat):Int)) (by omega) (by omega),wr' (by omega) (by omega)]
 congr 1
 omega
theorem xm {q i:Nat}(hq:q<n) (hi:i<m) (z:Int):jm p d q i z=some (outsL d m k q i z):=by
 have hn48:=h.n48
 have hm4:=h.m4
 have hk4:=h.k4
 have hsi:cH p=some (m:Int):=by rw[lT hs,hm]
 unfold jm
 rw[gp hs hpb,hd,bz,yp,cond_false,h.dl,wr' (z:=(n:Int)-1) (by omega) (by omega),cz,decide_eq_true (show(0:Int)<=(q:Int) by omega),decide_eq_true (show(q:Int)<=(n:Int)-1 by omega),Bool.and_self,bz,bz,yp,cond_false,hsi,bz,wr' (z:=(m:Int)-1) (by omega) (by omega),cz,decide_eq_true (show(0:Int)<=(i:Int) by omega),decide_eq_true (show(i:Int)<=(m:Int)-1 by omega),Bool.and_self,bz,bz,yp,cond_false]
 obtain⟨o,w1,w2⟩:=bY (f:=fi p d q i z) (λj (s:List Int×Int)=>s=(outsL d m j q i z,(j:Int))/\j<=k) (λ_=>False) (λs=>s.1=outsL d m k q i z) k (λj s ⟨e,hj⟩=>by
  subst e
  have hl:=qL d m j q i z
  unfold fi
  rw[bR (cm hs).2,hk,bz]
  dsimp only
  by_cases hlt:j<k
  · obtain⟨row,r1,r2,_⟩:=h.cellAt hq hi hlt
    have hlet:=jZ hs (x:=(i:Int)) (o:=(j:Int)) (by omega) (by omega) (by omega) (by omega)
    have e:(j:Int) * (m:Int)+(i:Int)=((j * m+i:Nat):Int):=by simp
    rw[hm,e]at hlet
    rw[decide_eq_true (show(j:Int)<(k:Int) by omega),cond_true,r1,bz,hlet,bz,r2,bz]
    have hS:=pY d m j q i z
    cases hc:tab d.Next q ((j * m+i:Nat):Int)==z with
    | true=>
     rw[hc,if_pos rfl]at hS
     rw[cond_true,app1 (by omega) rfl,bz,bz,wr' (by omega) (by omega)]
     exact⟨_,rfl,hlt,by rw[hS];rfl,by omega⟩
    | false=>
     rw[hc,if_neg (by simp),List.append_nil]at hS
     rw[cond_false,bz,wr' (by omega) (by omega)]
     exact⟨_,rfl,hlt,by rw[hS];rfl,by omega⟩
  · have:j=k:=by omega
    subst this
    rw[decide_eq_false (show ¬((j:Nat):Int)<(j:Int) by omega),cond_false]
    exact⟨_,rfl,rfl⟩) (2 ^ 64) 0 ([],0) (by omega) ⟨rfl,Nat.zero_le _⟩ (by omega)
 match o,w2 with
 | .inr s,e=>rw[w1,bz,bE,e]
theorem xd {q i:Nat}(hq:q<n) (hi:i<m) (z:Int):ml p d q i z=some (outsL d m k q i z):=by
 have hn48:=h.n48
 have hm4:=h.m4
 have hk4:=h.k4
 have hii:cn p=some (m:Int):=by rw[di hs,hm]
 obtain⟨sh1,sh2⟩:=dJ (cm hs).2
 rw[hk]at sh2
 have hrk:rng (k:Int)=some ():=by unfold rng;rw[if_pos (by omega)]
 have hk0:yn ((k:Int)-0)=k:=by omega
 unfold ml
 rw[ka,hs,bz,yp,cond_false,sq hs hpb,hd,bz,bz,yp,cond_false,decide_eq_false (show ¬(q:Int)<0 by omega),bz,cond_false,h.dl,decide_eq_false (show ¬(n:Int)<=(q:Int) by omega),bz,cond_false,decide_eq_false (show ¬(i:Int)<0 by omega),bz,cond_false,hii,bz,decide_eq_false (show ¬(m:Int)<=(i:Int) by omega),bz,cond_false,sh1,bz,sh2,hrk,bz,hk0]
 obtain⟨s,h1,h2⟩:=bL (f:=jH p d q i z) (λj s=>s=outsL d m j q i z) k (s:=[]) rfl (λj s hj e=>by
  subst e
  have hl:=qL d m j q i z
  obtain⟨row,r1,r2,_⟩:=h.cellAt hq hi hj
  have hb:j * m<=4 * 4:=Nat.mul_le_mul (by omega) (by omega)
  have e:(j:Int) * (m:Int)=((j * m:Nat):Int):=by simp
  have hS:=pY d m j q i z
  unfold jH
  rw[r1,bz,hii,bz,e,wr' (z:=((j * m:Nat):Int)) (by omega) (by omega),wr' (by omega) (by omega),show((j * m:Nat):Int)+(i:Int)=((j * m+i:Nat):Int) by omega,r2,bz]
  cases hc:tab d.Next q ((j * m+i:Nat):Int)==z with
  | true=>
   rw[hc,if_pos rfl]at hS
   rw[cond_true,app1 (by omega) rfl,bz,bz]
   exact⟨_,rfl,hS.symm⟩
  | false=>
   rw[hc,if_neg (by simp),List.append_nil]at hS
   rw[cond_false,bz]
   exact⟨_,rfl,hS.symm⟩)
 rw[h1,h2];rfl
omit hd hpb hk in
theorem yi {r:List Int}(hR:∀y∈r,Xn P.length y){q i:Nat}(hq:q<n) (hi:i<m){j:Nat}(hj:toP P r ((n+(q * m+i):Nat):Int)=some j):cc r P (n:Int) (q:Int) p (i:Int)=some (j:Int):=by
 have hn48:=h.n48
 have hm4:=h.m4
 have hlt:=oQ (n:=n) hq hi
 have hnm:n * m<=48 * 4:=Nat.mul_le_mul hn48 hm4
 have e:(q:Int) * (m:Int)=((q * m:Nat):Int):=by simp
 rw[eA (λy=>atP P y==((n+(q * m+i):Nat):Int)) (λy hy=>by
  obtain⟨v,hv,_⟩:=cJ (xs:=P) (hR y hy).1 (hR y hy).2
  unfold kr
  rw[hv,bz,di hs,hm,bz,ff hv,e,wr' (z:=((q * m:Nat):Int)) (by omega) (by omega),wr' (z:=(n:Int)+((q * m:Nat):Int)) (by omega) (by omega),wr' (by omega) (by omega),show(n:Int)+((q * m:Nat):Int)+(i:Int)=((n+(q * m+i):Nat):Int) by omega])]
 unfold toP at hj
 rw[hj]
end
end Go.Proofs.YtpcjbkgbnoocaaaGreat
set_option linter.unusedVariables false
set_option linter.unusedSimpArgs false
namespace Go.Proofs.YtpcjbkgbnoocaaaGreat
open Go Go.Wk Go.Proofs
def fM (pk:List Int) (P:List Place) (r:List Int) (n m q:Nat) (i:Nat):Int:=pkL pk (tgt P r ((n+(q * m+i):Nat):Int))
def oM (d:Det) (pk:List Int) (P:List Place) (r:List Int) (n m k q:Nat) (i:Nat):Int:=outF d m k q i (atP P (fM pk P r n m q i))
theorem oC (f:Nat->Int) (F:List Int){i:Nat}{v:Int}(hv:F[i]? =some v):∀j,(cC f F j).1[i]? =some v
 | 0=>hv
 | j+1=>by
  have h:=oC f F hv j
  show(addN _ _)[i]? =_
  unfold addN
  split
  · exact h
  · rw[List.getElem?_append_left (gs.1 h).1];exact h
structure Mkr (N m k:Nat) (Q:Int->Prop) (F:List Int) (i:Nat) (Nx Ou:List (List Int)):Prop where
 nm:Names N F
 all:∀x∈F,Q x
 zero:F[0]? =some 0
 nxl:Nx.length=i
 oul:Ou.length=i
 nxr:∀row∈Nx,row.length=m/\∀x∈row,0<=x/\x<(F.length:Int)
 our:∀row∈Ou,row.length=m/\∀x∈row,0<=x/\x<(k:Int)
def itM (d:Det) (n m k:Nat) (P:List Place) (g:Parity) (pk:List Int):Nat->List Int×List (List Int)×List (List Int)
 | 0=>([0],[],[])
 | j+1=>
  ((cC (fM pk P (cL g.Arena ((itM d n m k P g pk j).1.getD j 0)) n m (atP P ((itM d n m k P g pk j).1.getD j 0)).toNat) (itM d n m k P g pk j).1 m).1,
   (itM d n m k P g pk j).2.1++[(cC (fM pk P (cL g.Arena ((itM d n m k P g pk j).1.getD j 0)) n m (atP P ((itM d n m k P g pk j).1.getD j 0)).toNat) (itM d n m k P g pk j).1 m).2],
   (itM d n m k P g pk j).2.2++[(List.range m).map (oM d pk P (cL g.Arena ((itM d n m k P g pk j).1.getD j 0)) n m k (atP P ((itM d n m k P g pk j).1.getD j 0)).toNat)])
section
variable {p:Sig}(hs:sigOk p=true){d:Det}(hd:detOk p d=true) (hpb:∀x∈d.Pairs,x.Ask.length<=1000000000/\x.Give.length<=1000000000){n m k:Nat}{A:Arena}{P:List Place}{g:Parity}{W:Int->Prop}{pk wn:List Int}(h:Cx d n m k A P g W pk) (hm:pw p.In=(m:Int)) (hk:pw p.Out=(k:Int))
include h
theorem vq {x:Int}{v:Place}(hv:idx P x=some v) (ha:v.At<(n:Int)) (hw:wB W x=false):∃(q:Nat) (r:List Int),v.At=(q:Int)/\q<n/\idx g.Arena.Next x=some r/\r.length<=16/\(∀y∈r,Xn P.length y)/\∀i:Nat,i<m ->
 ∃j y u,toP P r ((n+(q * m+i):Nat):Int)=some j/\r[j]? =some y/\tgt P r ((n+(q * m+i):Nat):Int)=y/\(∃z∈r,atP P z=((n+(q * m+i):Nat):Int))/\idx pk y=some (fM pk P r n m q i)/\idx P (fM pk P r n m q i)=some u/\u.At=atP P (fM pk P r n m q i) /\
  (0<=fM pk P r n m q i/\fM pk P r n m q i<(P.length:Int)/\(wB W (fM pk P r n m q i)=false/\atP P (fM pk P r n m q i)<(n:Int)))/\idx (outsL d m k q i u.At) 0=some (oM d pk P r n m k q i)/\0<=oM d pk P r n m k q i/\oM d pk P r n m k q i<(k:Int):=by
 have hxX:Xn P.length x:=⟨(iJ hv).1,(iJ hv).2.1⟩
 obtain⟨hown,q,r,hvq,hq,hrx,hrow,hhas⟩:=h.state hv ha
 obtain⟨r',_,_,hr',_,_,_,hl⟩:=h.row hv
 rw[hrx]at hr'
 cases hr'
 refine⟨q,r,hvq,hq,hrx,hl,λy hy=>(hrow y hy).1,λi hi=>?_⟩
 obtain⟨t1,t2,j,t3,t4⟩:=rI (hhas i hi)
 generalize hy:tgt P r ((n+(q * m+i):Nat):Int)=y at *
 have hyX:=(hrow y t1).1
 have hyw:wB W y=wB W x:=h.yours hxX (by rw[hown,hw];simp) ((ph hrx).2 t1) hyX
 obtain⟨hyo,ry,hry,hR1,_⟩:=h.mid hyX hq hi t2
 obtain⟨to,hto,htX,hte,htw⟩:=h.mine hyX (by rw[hyo,hyw,hw])
 have hf:fM pk P r n m q i=to:=by
  unfold fM
  rw[hy,qq hto]
 obtain⟨_,o,ho,hta⟩:=hR1 to ((ph hry).1 hte)
 obtain⟨u,hu,_,_⟩:=h.place htX
 have hua:u.At=atP P to:=(ff hu).symm
 obtain⟨_,_,_,_,b2⟩:=h.cellAt hq hi ho
 have hO:=vZ (d:=d) (m:=m) (k:=k) (q:=q) (i:=i) (z:=atP P to) ho hta
 refine⟨j,y,u,t3,t4,rfl,hhas i hi,by rw[hf];exact hto,by rw[hf];exact hu,by rw[hf];exact hua,by rw[hf];exact⟨htX.1,htX.2,by rw[htw,hyw,hw],by rw[hta];exact b2⟩,?_⟩
 unfold oM
 rw[hf,hua]
 exact hO
include hs hd hpb hm hk
theorem vt {F:List Int}(hF:F.length<=256){z:Nat}{Nx Ou:List (List Int)}{x:Int}(hx:F[z]? =some x){v:Place}(hv:idx P x=some v) (ha:v.At<(n:Int)) (hw:wB W x=false){q:Nat}{r:List Int}(hq:v.At=(q:Int)) (hr:idx g.Arena.Next x=some r):
 (∃e,bI (ey p d g P pk (F,(z:Int),Nx,Ou) v) (2 ^ 64) (F,[],[],0)=some (.inr ((cC (fM pk P r n m q) F m).1,(cC (fM pk P r n m q) F m).2,(List.range m).map (oM d pk P r n m k q),e))) /\
 cntM (fj p (d,true) (g,P,true) ⟨wn,pk⟩ (F,(z:Int),Nx,Ou) v) m 0 (F,[],[])=some (.inr ((cC (fM pk P r n m q) F m).1,(cC (fM pk P r n m q) F m).2,(List.range m).map (oM d pk P r n m k q))):=by
 obtain⟨q',r',e1,hqn,e2,hrl,hR,hfacts⟩:=vq h hv ha hw
 have:q=q':=by omega
 subst this
 rw[hr]at e2
 cases e2
 have hm4:=h.m4
 have hol:∀j:Nat,((List.range j).map (oM d pk P r n m k q)).length=j:=λj=>by rw[yC,List.length_range]
 constructor
 · obtain⟨o,w1,w2⟩:=bY (f:=ey p d g P pk (F,(z:Int),Nx,Ou) v) (λj (s:List Int×List Int×List Int×Int)=>s=((cC (fM pk P r n m q) F j).1,(cC (fM pk P r n m q) F j).2,(List.range j).map (oM d pk P r n m k q),(j:Int))/\j<=m) (λ_=>False) (λs=>∃e,s=((cC (fM pk P r n m q) F m).1,(cC (fM pk P r n m q) F m).2,(List.range m).map (oM d pk P r n m k q),e)) m (λj s ⟨e,hj⟩=>by
    subst e
    obtain⟨l1,l2,l3⟩:=mH (fM pk P r n m q) F j
    unfold ey gZ
    dsimp only
    rw[bR (cm hs).1,hm,bz,bz]
    by_cases hlt:j<m
    · obtain⟨jj,y,u,t1,t2,t3,t4,t5,t6,t7,t8,t9,_⟩:=hfacts j hlt
      rw[decide_eq_true (show(j:Int)<(m:Int) by omega),cond_true,bC,oC _ _ hx,bz,hq,vM hs hd hpb h hm hqn hlt,bz,xf hr hrl hR t4,t3,bz,t5,bz,lL,bz,tK _ (by omega),bz,lL,bz,app1 (by omega) rfl,bz,t6,bz,xm hs hd hpb h hm hk hqn hlt,bz,t9,bz,app1 (by rw[hol];omega) rfl,bz,wr' (by omega) (by omega)]
      exact⟨_,rfl,hlt,by rw[List.range_succ,List.map_append];rfl,by omega⟩
    · have:j=m:=by omega
      subst this
      rw[decide_eq_false (show ¬((j:Nat):Int)<(j:Int) by omega),cond_false]
      exact⟨_,rfl,_,rfl⟩) (2 ^ 64) 0 (F,[],[],0) (by omega) ⟨rfl,Nat.zero_le _⟩ (by omega)
   match o,w2 with
   | .inr s,⟨e,e1⟩=>exact⟨e,by rw[w1,e1]⟩
 · obtain⟨s,h1,h2⟩:=bL (f:=fj p (d,true) (g,P,true) ⟨wn,pk⟩ (F,(z:Int),Nx,Ou) v) (λj s=>s=((cC (fM pk P r n m q) F j).1,(cC (fM pk P r n m q) F j).2,(List.range j).map (oM d pk P r n m k q))) m (s:=(F,[],[])) rfl (λj s hj e=>by
    subst e
    obtain⟨l1,l2,l3⟩:=mH (fM pk P r n m q) F j
    obtain⟨jj,y,u,t1,t2,t3,t4,t5,t6,t7,t8,t9,_⟩:=hfacts j hj
    unfold fj
    dsimp only
    rw[bC,oC _ _ hx,bz,hr,bz,h.dl,hq,yi hs h hm hR hqn hj t1,bz,bz,hr,bz,bC,t2,bz,t5,bz,mg,bz,oq _ (by omega),bz]
    dsimp only
    rw[app1 (by omega) rfl,bz,t6,bz,xd hs hd hpb h hm hk hqn hj,bz,t9,bz,app1 (by rw[hol];omega) rfl,bz]
    exact⟨_,rfl,by rw[List.range_succ,List.map_append];rfl⟩)
   rw[h1,h2]
end
end Go.Proofs.YtpcjbkgbnoocaaaGreat
set_option linter.unusedVariables false
set_option linter.unusedSimpArgs false
namespace Go.Proofs.YtpcjbkgbnoocaaaGreat
open Go Go.Wk Go.Proofs
theorem qb (d:Det) (n m k:Nat) (P:List Place) (g:Parity) (pk:List Int):∀{i j:Nat},i<=j->(itM d n m k P g pk i).1.length<=(itM d n m k P g pk j).1.length:=by
 intro i j hij
 induction hij with
 | refl=>exact Nat.le_refl _
 | step _ ih=>exact Nat.le_trans ih (mH _ _ _).1
section
variable {p:Sig}(hs:sigOk p=true){d:Det}(hd:detOk p d=true) (hpb:∀x∈d.Pairs,x.Ask.length<=1000000000/\x.Give.length<=1000000000){n m k:Nat}{A:Arena}{P:List Place}{g:Parity}{W:Int->Prop}{pk wn:List Int}(h:Cx d n m k A P g W pk) (hm:pw p.In=(m:Int)) (hk:pw p.Out=(k:Int)) (h0:wB W 0=false)
include h h0
theorem kA:∀j:Nat,(∀i,i<j->i<(itM d n m k P g pk i).1.length)->Mkr P.length m k (λx=>wB W x=false/\atP P x<(n:Int)) (itM d n m k P g pk j).1 j (itM d n m k P g pk j).2.1 (itM d n m k P g pk j).2.2
 | 0,_=>by
  obtain⟨_,_,_,_,hP1,_⟩:=h.len
  have hz:=h.rg.game.zero
  have hz0:atP P 0<(n:Int):=by
   rw[ff (v:=⟨0,firstR d.Pairs.length⟩) (by rw[show(0:Int)=((0:Nat):Int) from rfl,bC];exact hz)]
   have:=h.n1
   show(0:Int)<_
   omega
  refine⟨⟨by show[(0:Int)].Nodup;simp,λx hx=>?_⟩,λx hx=>?_,rfl,rfl,rfl,λx hx=>(by cases hx),λx hx=>(by cases hx)⟩
  · rw[yr.1 hx];omega
  · rw[yr.1 hx];exact⟨h0,hz0⟩
 | j+1,hj=>by
  have hM:=kA j λi hi=>hj i (by omega)
  have hlt:=hj j (by omega)
  unfold itM
  generalize itM d n m k P g pk j=s at *
  obtain⟨F,Nx,Ou⟩:=s
  dsimp only at hM hlt ⊢
  have hx:F[j]? =some F[j]:=bB hlt
  have hgd:F.getD j 0=F[j]:=by rw[List.getD_eq_getElem?_getD,hx];rfl
  rw[hgd]
  generalize F[j]=x at hx
  have hxm:=it hx
  obtain⟨hxw,hxa⟩:=hM.all x hxm
  obtain⟨v,hv,_,_⟩:=h.place (x:=x) (hM.nm.2 x hxm)
  rw[ff hv]at hxa ⊢
  obtain⟨q,r,e1,hq,hr,hrl,hR,hf⟩:=vq h hv hxa hxw
  rw[dx hr,show v.At.toNat=q by omega]
  have hN:=qh (N:=P.length) (F:=F) (Q:=λx=>wB W x=false/\atP P x<(n:Int)) hM.nm hM.all (f:=fM pk P r n m q) (c:=m) (λi hi=>by
   obtain⟨_,_,_,_,_,_,_,_,_,_,t8,_⟩:=hf i hi
   exact t8) m (Nat.le_refl _)
  have hl:=hN.len
  refine⟨hN.nm,hN.all,hN.pre 0 _ hM.zero,by rw[yq,hM.nxl];rfl,by rw[yq,hM.oul];rfl,λrow hrow=>?_,λrow hrow=>?_⟩
  · rcases yz.1 hrow with hr' | hr'
    · obtain⟨b1,b2⟩:=hM.nxr row hr'
      exact⟨b1,λx hx=>by have:=b2 x hx;omega⟩
    · rw[yr.1 hr']
      exact⟨hN.rl,hN.rin⟩
  · rcases yz.1 hrow with hr' | hr'
    · exact hM.our row hr'
    · rw[yr.1 hr']
      refine⟨by rw[yC,List.length_range],λy hy=>?_⟩
      obtain⟨i,hi,e⟩:=List.mem_map.1 hy
      obtain⟨_,_,_,_,_,_,_,_,_,_,_,_,t10⟩:=hf i (List.mem_range.1 hi)
      rw[← e];exact t10
include hs hd hpb hm hk
theorem uH:∃j:Nat,(∀i,i<j->i<(itM d n m k P g pk i).1.length)/\j=(itM d n m k P g pk j).1.length /\
 bI (ij p (d,true) (g,P,true) ⟨wn,pk⟩) (2 ^ 64) ([0],0,[],[])=some (.inr ((itM d n m k P g pk j).1,(j:Int),(itM d n m k P g pk j).2.1,(itM d n m k P g pk j).2.2)) /\
 bI (fx p d g P pk) (2 ^ 64) ([0],0,[],[])=some (if(itM d n m k P g pk j).1.length<=48 then .inr ((itM d n m k P g pk j).1,(j:Int),(itM d n m k P g pk j).2.1,(itM d n m k P g pk j).2.2) else .inl (⟨[],[]⟩,false)):=by
 obtain⟨_,_,_,hP256,_,_⟩:=h.len
 have hm1:=h.m1
 have hm4:=h.m4
 have hrm:rng (m:Int)=some ():=by unfold rng;rw[if_pos (by omega)]
 have hm0:yn ((m:Int)-0)=m:=by omega
 -- one step of both
 have hstep:∀j:Nat,(∀i,i<j->i<(itM d n m k P g pk i).1.length)->j<(itM d n m k P g pk j).1.length->∃x v,(itM d n m k P g pk j).1[j]? =some x/\idx P x=some v /\
  (∃e,bI (ey p d g P pk ((itM d n m k P g pk j).1,(j:Int),(itM d n m k P g pk j).2.1,(itM d n m k P g pk j).2.2) v) (2 ^ 64) ((itM d n m k P g pk j).1,[],[],0)=some (.inr ((itM d n m k P g pk (j+1)).1,(cC (fM pk P (cL g.Arena x) n m (atP P x).toNat) (itM d n m k P g pk j).1 m).2,(List.range m).map (oM d pk P (cL g.Arena x) n m k (atP P x).toNat),e))) /\
  cntM (fj p (d,true) (g,P,true) ⟨wn,pk⟩ ((itM d n m k P g pk j).1,(j:Int),(itM d n m k P g pk j).2.1,(itM d n m k P g pk j).2.2) v) m 0 ((itM d n m k P g pk j).1,[],[])=some (.inr ((itM d n m k P g pk (j+1)).1,(cC (fM pk P (cL g.Arena x) n m (atP P x).toNat) (itM d n m k P g pk j).1 m).2,(List.range m).map (oM d pk P (cL g.Arena x) n m k (atP P x).toNat))) /\
  itM d n m k P g pk (j+1)=((itM d n m k P g pk (j+1)).1,(itM d n m k P g pk j).2.1++[(cC (fM pk P (cL g.Arena x) n m (atP P x).toNat) (itM d n m k P g pk j).1 m).2],(itM d n m k P g pk j).2.2++[(List.range m).map (oM d pk P (cL g.Arena x) n m k (atP P x).toNat)]):=λj hj hlt=>by
  have hM:=kA h h0 j hj
  have hFl:=hM.nm.len
  have hx:(itM d n m k P g pk j).1[j]? =some ((itM d n m k P g pk j).1[j]):=bB hlt
  have hgd:(itM d n m k P g pk j).1.getD j 0=(itM d n m k P g pk j).1[j]:=by rw[List.getD_eq_getElem?_getD,hx];rfl
  have hE:itM d n m k P g pk (j+1)=((cC (fM pk P (cL g.Arena ((itM d n m k P g pk j).1[j])) n m (atP P ((itM d n m k P g pk j).1[j])).toNat) (itM d n m k P g pk j).1 m).1,(itM d n m k P g pk j).2.1++[(cC (fM pk P (cL g.Arena ((itM d n m k P g pk j).1[j])) n m (atP P ((itM d n m k P g pk j).1[j])).toNat) (itM d n m k P g pk j).1 m).2],(itM d n m k P g pk j).2.2++[(List.range m).map (oM d pk P (cL g.Arena ((itM d n m k P g pk j).1[j])) n m k (atP P ((itM d n m k P g pk j).1[j])).toNat)]):=by
   rw[← hgd];rfl
  generalize(itM d n m k P g pk j).1[j]=x at hx hE
  have hxm:=it hx
  obtain⟨hxw,hxa⟩:=hM.all x hxm
  obtain⟨v,hv,_,_⟩:=h.place (x:=x) (hM.nm.2 x hxm)
  have hat:=ff hv
  rw[hat]at hxa
  obtain⟨q,r,e1,hq,hr,_⟩:=vq h hv hxa hxw
  obtain⟨c1,c2⟩:=vt (wn:=wn) hs hd hpb h hm hk (F:=(itM d n m k P g pk j).1) (by omega) (z:=j) (Nx:=(itM d n m k P g pk j).2.1) (Ou:=(itM d n m k P g pk j).2.2) hx hv hxa hxw e1 hr
  rw[dx hr,hat,show v.At.toNat=q by omega]at hE
  have hE1:=congrArg Prod.fst hE
  dsimp only at hE1
  refine⟨x,v,hx,hv,?_,?_,?_⟩
  · rw[dx hr,hat,show v.At.toNat=q by omega,hE1];exact c1
  · rw[dx hr,hat,show v.At.toNat=q by omega,hE1];exact c2
  · rw[dx hr,hat,show v.At.toNat=q by omega,hE1];exact hE
 obtain⟨o,w1,w2⟩:=bY (f:=ij p (d,true) (g,P,true) ⟨wn,pk⟩) (λj (s:List Int×Int×List (List Int)×List (List Int))=>s=((itM d n m k P g pk j).1,(j:Int),(itM d n m k P g pk j).2.1,(itM d n m k P g pk j).2.2)/\∀i,i<j->i<(itM d n m k P g pk i).1.length) (λ_=>False)
  (λs=>∃j:Nat,s=((itM d n m k P g pk j).1,(j:Int),(itM d n m k P g pk j).2.1,(itM d n m k P g pk j).2.2)/\(∀i,i<j->i<(itM d n m k P g pk i).1.length)/\j=(itM d n m k P g pk j).1.length) 256 (λj s ⟨e,hj⟩=>by
  subst e
  have hM:=kA h h0 j hj
  have hFl:=hM.nm.len
  have e1:=hM.nxl
  have e2:=hM.oul
  unfold ij
  dsimp only
  by_cases hlt:j<(itM d n m k P g pk j).1.length
  · obtain⟨x,v,hx,hv,_,c2,hE⟩:=hstep j hj hlt
    rw[decide_eq_true (show(j:Int)<((itM d n m k P g pk j).1.length:Int) by omega),cond_true,bC,hx,bz,hv,bz,di hs,hm,bz,hrm,bz,hm0,c2,bz,bE]
    dsimp only
    rw[app1 (by omega) rfl,bz,app1 (by omega) rfl,bz,wr' (by omega) (by omega)]
    refine⟨_,rfl,by omega,?_,λi hi=>?_⟩
    · rw[hE];rfl
    · by_cases e:i=j
      · subst e;exact hlt
      · exact hj i (by omega)
  · have hle:(itM d n m k P g pk j).1.length=j:=by
     have hge:j<=(itM d n m k P g pk j).1.length:=by
      cases j with
      | zero=>omega
      | succ j=>
       have a:=hj j (by omega)
       have b:=qb d n m k P g pk (show j<=j+1 by omega)
       omega
     omega
    rw[decide_eq_false (by omega),cond_false]
    exact⟨_,rfl,j,rfl,hj,hle.symm⟩) (2 ^ 64) 0 ([0],0,[],[]) (by omega) ⟨rfl,λi hi=>absurd hi (Nat.not_lt_zero i)⟩ (by omega)
 obtain⟨o',w1',w2'⟩:=bY (f:=fx p d g P pk) (λj (s:List Int×Int×List (List Int)×List (List Int))=>s=((itM d n m k P g pk j).1,(j:Int),(itM d n m k P g pk j).2.1,(itM d n m k P g pk j).2.2)/\(∀i,i<j->i<(itM d n m k P g pk i).1.length)/\(itM d n m k P g pk j).1.length<=48)
  (λr=>r=(⟨[],[]⟩,false)/\∃j:Nat,(∀i,i<j->i<(itM d n m k P g pk i).1.length)/\48<(itM d n m k P g pk j).1.length)
  (λs=>∃j:Nat,s=((itM d n m k P g pk j).1,(j:Int),(itM d n m k P g pk j).2.1,(itM d n m k P g pk j).2.2)/\(∀i,i<j->i<(itM d n m k P g pk i).1.length)/\j=(itM d n m k P g pk j).1.length/\(itM d n m k P g pk j).1.length<=48) 256 (λj s ⟨e,hj,hl48⟩=>by
  subst e
  have hM:=kA h h0 j hj
  have e1:=hM.nxl
  have e2:=hM.oul
  unfold fx
  dsimp only
  by_cases hlt:j<(itM d n m k P g pk j).1.length
  · obtain⟨x,v,hx,hv,⟨e,c1⟩,_,hE⟩:=hstep j hj hlt
    have hj1:∀i,i<j+1->i<(itM d n m k P g pk i).1.length:=λi hi=>by
     by_cases e:i=j
     · subst e;exact hlt
     · exact hj i (by omega)
    rw[decide_eq_true (show(j:Int)<((itM d n m k P g pk j).1.length:Int) by omega),cond_true,bC,hx,bz,hv,bz,c1,bz,bE]
    dsimp only
    by_cases hbig:(48:Int)<((itM d n m k P g pk (j+1)).1.length:Int)
    · rw[decide_eq_true hbig,cond_true]
      exact⟨_,rfl,rfl,j+1,hj1,by omega⟩
    · rw[decide_eq_false hbig,cond_false,app1 (by omega) rfl,bz,app1 (by omega) rfl,bz,wr' (by omega) (by omega)]
      refine⟨_,rfl,by omega,?_,hj1,by omega⟩
      rw[hE];rfl
  · have hle:(itM d n m k P g pk j).1.length=j:=by
     have hge:j<=(itM d n m k P g pk j).1.length:=by
      cases j with
      | zero=>omega
      | succ j=>
       have a:=hj j (by omega)
       have b:=qb d n m k P g pk (show j<=j+1 by omega)
       omega
     omega
    rw[decide_eq_false (by omega),cond_false]
    exact⟨_,rfl,j,rfl,hj,hle.symm,hl48⟩) (2 ^ 64) 0 ([0],0,[],[]) (by omega) ⟨rfl,λi hi=>absurd hi (Nat.not_lt_zero i),by show[(0:Int)].length<=48;simp⟩ (by omega)
 match o,w2 with
 | .inr s,⟨j,e,j1,j2⟩=>
  subst e
  refine⟨j,j1,j2,w1,?_⟩
  match o',w2' with
  | .inl r,⟨e,j',k1,k2⟩=>
   have hjj:j'<=j:=Classical.byContradiction λhn=>by
    have:=k1 j (by omega)
    omega
   have:=qb d n m k P g pk hjj
   rw[if_neg (by omega),w1',e]
  | .inr s',⟨j',e,k1,k2,k3⟩=>
   have hjj:j=j':=by
    by_cases c:j<j'
    · have:=k1 j c;omega
    · by_cases c':j'<j
      · have:=j1 j' c';omega
      · omega
   subst hjj
   rw[if_pos k3,w1',e]
end
theorem qn (p:Sig){cs:List Clause}(hb:∀c∈cs,Clause.bd c):(gr p cs=some (⟨[],[]⟩,false)/\mq p cs=some (⟨[],[]⟩,false)) \/
 ∃(N m k:Nat) (F:List Int) (Nx Ou:List (List Int)) (Q:Int->Prop),Mkr N m k Q F F.length Nx Ou/\F.length<=48/\sigOk p=true/\pw p.In=(m:Int)/\pw p.Out=(k:Int)/\gr p cs=some (⟨Nx,Ou⟩,true)/\mq p cs=some (⟨Nx,Ou⟩,true):=by
 unfold gr mq
 rcases setup p hb with ⟨h1,h2⟩ | ⟨d,A,h1,h2,S2,⟨r1,r2⟩ | ⟨n,m,k,P,g,W,pk,S⟩⟩
 · left
   rw[h1,h2]
   exact⟨rfl,rfl⟩
 · left
   simp only[h1,h2,S2.sC,S2.iC,r1,r2,bz,yp,cond_false]
   exact⟨rfl,rfl⟩
 · simp only[h1,h2,S.sC,S.iC,S.sR,S.iR,S.iW,S.won,S.sS,S.iS,bz,yp,cond_false]
   cases hw:wB W 0 with
   | true=>
    left
    exact⟨rfl,rfl⟩
   | false=>
    obtain⟨j,j1,j2,w1,w2⟩:=uH (wn:=wonL g.Prio.length W) S.sig S.det S2.pb S.cx S.im S.ok hw
    have hM:=kA S.cx hw j j1
    have hS:kK p d g P pk=some (if(itM d n m k P g pk j).1.length<=48 then(⟨(itM d n m k P g pk j).2.1,(itM d n m k P g pk j).2.2⟩,true) else(⟨[],[]⟩,false)):=by
     unfold kK
     rw[w2,bz]
     by_cases c:(itM d n m k P g pk j).1.length<=48
     · rw[if_pos c,if_pos c];rfl
     · rw[if_neg c,if_neg c];rfl
    rw[hS,w1]
    by_cases c:(itM d n m k P g pk j).1.length<=48
    · right
      rw[if_pos c]
      refine⟨P.length,m,k,(itM d n m k P g pk j).1,_,_,(λx=>wB W x=false/\atP P x<(n:Int)),?_,c,S.sig,S.im,S.ok,rfl,?_⟩
      · rw[← j2];exact hM
      · rw[bz,bE]
        dsimp only
        show(bif (b2i false !=0) then _ else _)=_
        rw[decide_eq_false (by omega)];rfl
    · left
      rw[if_neg c]
      refine⟨rfl,?_⟩
      rw[bz,bE]
      dsimp only
      show(bif (b2i false !=0) then _ else _)=_
      rw[decide_eq_true (by omega)];rfl
end Go.Proofs.YtpcjbkgbnoocaaaGreat
set_option linter.unusedVariables false
set_option linter.unusedSimpArgs false
namespace Go.Proofs.YtpcjbkgbnoocaaaGreat
open Go Go.Wk Go.Proofs
def dq (n z:Int):Int:=z / n
def ds (n z:Int):Int:=z % n
theorem yg {n m z:Int}(hn:1<=n) (z0:0<=z) (z1:z<m * n):0<=dq n z/\dq n z<m/\0<=ds n z/\ds n z<n:=
 ⟨Int.ediv_nonneg z0 (by omega),Int.ediv_lt_of_lt_mul (by omega) z1,Int.emod_nonneg _ (by omega),Int.emod_lt_of_pos _ (by omega)⟩
theorem uZ {n x y:Int}(h1:dq n x=dq n y) (h2:ds n x=ds n y):x=y:=by
 have e1:=Int.mul_ediv_add_emod x n
 have e2:=Int.mul_ediv_add_emod y n
 unfold dq at h1
 unfold ds at h2
 rw[← e1,← e2,h1,h2]
theorem xO {n q s:Int}(hn:1<=n) (s0:0<=s) (s1:s<n):dq n (q * n+s)=q/\ds n (q * n+s)=s:=by
 unfold dq ds
 constructor
 · rw[Int.add_comm,Int.add_mul_ediv_right _ _ (by omega),Int.ediv_eq_zero_of_lt s0 s1];omega
 · rw[Int.add_comm,Int.add_mul_emod_self_right,Int.emod_eq_of_lt s0 s1]
theorem yf {n x z:Int}:((dq n x==dq n z)&&(ds n x==ds n z))=(z==x):=by
 rw[Bool.eq_iff_iff]
 simp only[yo,beq_iff_eq]
 exact⟨λh=>(uZ h.1 h.2).symm,λh=>by rw[h];exact⟨rfl,rfl⟩⟩
end Go.Proofs.YtpcjbkgbnoocaaaGreat
set_option linter.unusedVariables false
set_option linter.unusedSimpArgs false
namespace Go.Proofs.YtpcjbkgbnoocaaaGreat
open Go Go.Wk Go.Proofs
def rowOk (p:Sig) (m:Machine) (i:Nat) (row:List Int):Bool:=
 match m.Out[i]? with
 | some o=>((row.length:Int)==pw p.In)&&((o.length:Int)==(row.length:Int))&&row.all (inR (m.Next.length:Int))&&o.all (inR (pw p.Out))
 | none=>false
def machOk (p:Sig) (m:Machine):Bool:=decide (1<=(m.Next.length:Int))&&decide ((m.Next.length:Int)<=48)&&((m.Out.length:Int)==(m.Next.length:Int))&&m.Next.zipIdx.all (λx=>rowOk p m x.2 x.1)
theorem qj (p:Sig) (m:Machine):je p m=some (sigOk p&&machOk p m):=by
 unfold je machOk
 rw[cZ,bz]
 cases hs:sigOk p with
 | false=>rfl
 | true=>
  obtain⟨hi,ho⟩:=cm hs
  have pI:=dK p.In
  have pO:=dK p.Out
  simp only[yp,cond_false,cz,bz,Bool.true_and]
  cases h1:(decide (1<=(m.Next.length:Int))&&decide ((m.Next.length:Int)<=48)) with
  | false=>rfl
  | true=>
   simp only[yo,decide_eq_true_eq]at h1
   simp only[yp,cond_false,bz,Bool.true_and,bne]
   cases h2:((m.Out.length:Int)==(m.Next.length:Int)) with
   | false=>rfl
   | true=>
    have h2:=beq_iff_eq.1 h2
    rw[jR (f:=fo p m) (r:=false) (rowOk p m) (xs:=m.Next) rfl (λi row hx=>by
     have hlt:=(gs.1 hx).1
     obtain⟨o,hout⟩:∃o,m.Out[i]? =some o:=⟨_,bB (by omega)⟩
     have hv:rowOk p m i row=(((row.length:Int)==pw p.In)&&((o.length:Int)==(row.length:Int))&&row.all (inR (m.Next.length:Int))&&o.all (inR (pw p.Out))):=by unfold rowOk;rw[hout]
     rw[hv]
     unfold fo
     rw[bC,bC,hx,hout]
     simp only[bz,gZ,bR hi,bR ho,fN row (n:=(m.Next.length:Int)) (by omega) (by omega),fN o (n:=pw p.Out) (by omega) (by omega),bne]
     generalize((row.length:Int)==pw p.In)=b1
     generalize((o.length:Int)==(row.length:Int))=b2
     generalize row.all (inR (m.Next.length:Int))=b3
     generalize o.all (inR (pw p.Out))=b4
     cases b1 <;> cases b2 <;> cases b3 <;> cases b4 <;> rfl)]
    simp only[yp,cond_false,bz,Bool.true_and]
    cases List.all m.Next.zipIdx (λx=>rowOk p m x.2 x.1) <;> rfl
theorem qg {p:Sig}(hs:sigOk p=true) (m:Machine):jk p m=some (machOk p m):=by
 unfold jk machOk
 obtain⟨hi,ho⟩:=cm hs
 simp only[orE,bz,ou,bne]
 rw[← Bool.not_and,← Bool.not_and]
 cases h1:(decide (1<=(m.Next.length:Int))&&decide ((m.Next.length:Int)<=48)&&((m.Out.length:Int)==(m.Next.length:Int))) with
 | false=>rfl
 | true=>
  simp only[yo,decide_eq_true_eq,beq_iff_eq]at h1
  simp only[yp,cond_false,bz,Bool.true_and]
  rw[jR (f:=fl p m) (r:=false) (rowOk p m) (xs:=m.Next) rfl (λi row hx=>by
   have hlt:=(gs.1 hx).1
   obtain⟨o,hout⟩:∃o,m.Out[i]? =some o:=⟨_,bB (by omega)⟩
   have hv:rowOk p m i row=(((row.length:Int)==pw p.In)&&((o.length:Int)==(row.length:Int))&&row.all (inR (m.Next.length:Int))&&o.all (inR (pw p.Out))):=by unfold rowOk;rw[hout]
   rw[hv]
   unfold fl
   rw[bC,bC,hx,hout]
   simp only[bz,di hs,(dJ ho).1,(dJ ho).2,dD,bne]
   generalize((row.length:Int)==pw p.In)=b1
   generalize((o.length:Int)==(row.length:Int))=b2
   generalize row.all (inR (m.Next.length:Int))=b3
   generalize o.all (inR (pw p.Out))=b4
   cases b1 <;> cases b2 <;> cases b3 <;> cases b4 <;> rfl)]
  cases List.all m.Next.zipIdx (λx=>rowOk p m x.2 x.1) <;> rfl
theorem tj {p:Sig}{m:Machine}(h:machOk p m=true):1<=m.Next.length/\m.Next.length<=48/\m.Out.length=m.Next.length /\
 (∀row∈m.Next,RowIn m.Next.length (pw p.In) row)/\(∀row∈m.Out,RowIn (pw p.Out) (pw p.In) row):=by
 simp only[machOk,yo,decide_eq_true_eq,beq_iff_eq]at h
 obtain⟨⟨⟨h1,h2⟩,h3⟩,h4⟩:=h
 rw[List.all_eq_true]at h4
 have key:∀(i:Nat) row,m.Next[i]? =some row->∃o,m.Out[i]? =some o/\RowIn m.Next.length (pw p.In) row/\RowIn (pw p.Out) (pw p.In) o:=λi row hr=>by
  have:=h4 (row,i) (List.mem_zipIdx_iff_getElem?.2 hr)
  unfold rowOk at this
  cases ho:m.Out[i]? with
  | none=>simp[ho]at this
  | some o=>
   simp only[ho,yo,beq_iff_eq,List.all_eq_true,cE]at this
   obtain⟨⟨⟨k1,k2⟩,k3⟩,k4⟩:=this
   exact⟨o,rfl,⟨k1,k3⟩,⟨by omega,k4⟩⟩
 refine⟨by omega,by omega,by omega,λrow hr=>?_,λo ho=>?_⟩
 · obtain⟨i,hi⟩:=List.mem_iff_getElem?.1 hr
   exact(key i row hi).choose_spec.2.1
 · obtain⟨i,hi⟩:=List.mem_iff_getElem?.1 ho
   have hlt:=(gs.1 hi).1
   obtain⟨o',h5,_,h6⟩:=key i _ (bB (by omega))
   rw[hi]at h5
   cases h5
   exact h6
end Go.Proofs.YtpcjbkgbnoocaaaGreat
set_option linter.unusedVariables false
set_option linter.unusedSimpArgs false
namespace Go.Proofs.YtpcjbkgbnoocaaaGreat
open Go Go.Wk Go.Proofs
def rivalOk (p:Sig) (r:Rival):Bool:=
 decide (1<=(r.In.length:Int))&&decide ((r.In.length:Int)<=256)&&((r.Next.length:Int)==(r.In.length:Int))&&r.In.all (inR (pw p.In))&&r.Next.all (λxs=>((xs.length:Int)==pw p.Out)&&xs.all (inR (r.In.length:Int)))
theorem qY (p:Sig) (r:Rival) (hr:r.In.length<=1048576):kQ p r=some (sigOk p&&rivalOk p r):=by
 unfold kQ
 rw[cZ,bz]
 cases hs:sigOk p with
 | false=>simp
 | true=>
  obtain⟨h1,h2⟩:=cm hs
  simp only[yp,cond_false,cz,bz,cH,bR h1]
  unfold rivalOk
  have hp:=dK p.In
  rw[fN _ (by omega) (by omega)]
  have hm:=c8 (f:=gJ p r) (r:=false) (λxs=>((xs.length:Int)==pw p.Out)&&xs.all (inR (r.In.length:Int))) (xs:=r.Next) rfl (λi y hy=>by
   unfold gJ
   simp only[bC,hy,bz,fE,bR h2,fN y (n:=(r.In.length:Int)) (by omega) (by omega),bne]
   generalize y.all (inR (r.In.length:Int))=b1
   generalize((y.length:Int)==pw p.Out)=b2
   cases b1 <;> cases b2 <;> rfl)
  rw[hm,bne]
  generalize(r.Next.all (λxs=>((xs.length:Int)==pw p.Out)&&xs.all (inR (r.In.length:Int))))=b1
  generalize((r.Next.length:Int)==(r.In.length:Int))=b2
  generalize r.In.all (inR (pw p.In))=b3
  generalize(decide (1<=(r.In.length:Int))&&decide ((r.In.length:Int)<=256))=b4
  cases b1 <;> cases b2 <;> cases b3 <;> cases b4 <;> rfl
theorem lH (p:Sig) (r:Rival) (hs:sigOk p=true):iy p r=some (rivalOk p r):=by
 obtain⟨h1,h2⟩:=cm hs
 unfold iy rivalOk cn
 simp only[(dJ h1).1,(dJ h1).2,bz,dD]
 have hm:=c8 (f:=gU p r) (r:=false) (λxs=>((xs.length:Int)==pw p.Out)&&xs.all (inR (r.In.length:Int))) (xs:=r.Next) rfl (λi y hy=>by
  unfold gU
  simp only[bC,hy,bz,(dJ h2).1,(dJ h2).2,dD,bne]
  generalize y.all (inR (r.In.length:Int))=b1
  generalize((y.length:Int)==pw p.Out)=b2
  cases b1 <;> cases b2 <;> rfl)
 rw[hm,bne]
 have e1:decide ((r.In.length:Int)<1)= !(decide (1<=(r.In.length:Int))):=by rw[← decide_not];exact decide_eq_decide.2 (by omega)
 have e2:decide (256<(r.In.length:Int))= !(decide ((r.In.length:Int)<=256)):=by rw[← decide_not];exact decide_eq_decide.2 (by omega)
 rw[e1,e2]
 generalize(r.Next.all (λxs=>((xs.length:Int)==pw p.Out)&&xs.all (inR (r.In.length:Int))))=b1
 generalize((r.Next.length:Int)==(r.In.length:Int))=b2
 generalize r.In.all (inR (pw p.In))=b3
 generalize(decide (1<=(r.In.length:Int)))=b4
 generalize(decide ((r.In.length:Int)<=256))=b5
 cases b1 <;> cases b2 <;> cases b3 <;> cases b4 <;> cases b5 <;> rfl
theorem ez {p:Sig}{r:Rival}(h:rivalOk p r=true):1<=r.In.length/\r.In.length<=256/\r.Next.length=r.In.length/\(∀x∈r.In,0<=x/\x<pw p.In)/\∀xs∈r.Next,(xs.length:Int)=pw p.Out/\∀x∈xs,0<=x/\x<r.In.length:=by
 simp only[rivalOk,yo,decide_eq_true_eq,beq_iff_eq,List.all_eq_true,cE]at h
 obtain⟨⟨⟨⟨h1,h2⟩,h3⟩,h4⟩,h5⟩:=h
 exact⟨by omega,by omega,by omega,h4,h5⟩
end Go.Proofs.YtpcjbkgbnoocaaaGreat
set_option linter.unusedVariables false
set_option linter.unusedSimpArgs false
namespace Go.Proofs.YtpcjbkgbnoocaaaGreat
open Go Go.Wk Go.Proofs
theorem qC {p:Sig}(hs:sigOk p=true){x o:Int}(x0:0<=x) (x1:x<pw p.In) (o0:0<=o) (o1:o<pw p.Out):dQ p x o=some (o * pw p.In+x):=by
 have pI:=dK p.In
 have pO:=dK p.Out
 obtain⟨hi,ho⟩:=cm hs
 have hmul:0<=o * pw p.In:=Int.mul_nonneg o0 (by omega)
 have hmul2:o * pw p.In<=4 * 4:=Int.mul_le_mul (by omega) (by omega) (by omega) (by omega)
 unfold dQ
 simp only[cZ,hs,bz,yp,cond_false,bR hi,bR ho]
 rw[wr' (z:=pw p.In-1) (by omega) (by omega),wr' (z:=pw p.Out-1) (by omega) (by omega),wr' (z:=o * pw p.In) (by omega) (by omega),wr' (by omega) (by omega)]
 simp only[cz,pt,bz,cE.2 ⟨x0,x1⟩,cE.2 ⟨o0,o1⟩,yp,cond_false]
def inAt (r:Rival) (q:Int):Int:=r.In.getD q.toNat 0
section
variable {p:Sig}{r:Rival}(hr:rivalOk p r=true)
include hr
theorem kW {q:Int}(q0:0<=q) (q1:q<r.In.length):idx r.In q=some (inAt r q)/\0<=inAt r q/\inAt r q<pw p.In:=by
 obtain⟨_,_,_,h4,_⟩:=ez hr
 obtain⟨x,h5,h6⟩:=cJ (xs:=r.In) q0 q1
 have e:inAt r q=x:=by
  unfold inAt
  rw[cX q0]at h5
  rw[List.getD_eq_getElem?_getD,h5,Option.getD_some]
 rw[e]
 exact⟨h5,h4 x h6⟩
theorem nX {q o:Int}(q0:0<=q) (q1:q<r.In.length) (o0:0<=o) (o1:o<pw p.Out):∃row,idx r.Next q=some row/\idx row o=some (tab r.Next q o)/\0<=tab r.Next q o/\tab r.Next q o<r.In.length:=by
 obtain⟨_,_,h3,_,h5⟩:=ez hr
 exact nE (t:=r.Next) (n:=r.In.length) (l:=pw p.Out) h5 q0 (by omega) o0 o1
end
end Go.Proofs.YtpcjbkgbnoocaaaGreat
set_option linter.unusedVariables false
set_option linter.unusedSimpArgs false
namespace Go.Proofs.YtpcjbkgbnoocaaaGreat
open Go Go.Wk Go.Proofs
def Cur (i:Int):Prop:=0<=i/\i<=4096
theorem qX (A:BitVec (IntKind.bits IntKind.i64)):0<=IntKind.i64.wrap ((A &&& BitVec.ofInt (IntKind.bits IntKind.i64) 255).toNat:Int)/\IntKind.i64.wrap ((A &&& BitVec.ofInt (IntKind.bits IntKind.i64) 255).toNat:Int)<=255:=by
 have h:(A &&& BitVec.ofInt (IntKind.bits IntKind.i64) 255).toNat<=255:=by
  rw[BitVec.toNat_and,qz (by omega) (by omega)]
  exact Nat.and_le_right
 rw[wr' (by omega) (by omega)]
 omega
section
variable {b:List Int}(hl:b.length<=4096)
include hl
theorem qW {i h:Int}(hi:Cur i):∃x i' h',hU ⟨b,i,h⟩=some (x,i',h')/\0<=x/\x<=255/\Cur i':=by
 obtain⟨i0,i1⟩:=hi
 unfold hU
 dsimp only
 by_cases hlt:i<(b.length:Int)
 · obtain⟨y,hy,_⟩:=cJ (xs:=b) i0 hlt
   simp only[hlt,decide_true,cond_true,hy,bz]
   refine⟨_,_,_,rfl,(qX _).1,(qX _).2,?_⟩
   show Cur (IntKind.i64.wrap (i+1))
   rw[wr' (by omega) (by omega)];unfold Cur;omega
 · simp only[hlt,decide_false,cond_false,bz]
   exact⟨_,_,_,rfl,(qX _).1,(qX _).2,i0,i1⟩
theorem mG {i h:Int}(hi:Cur i) (k:Int):∃x i' h',cb ⟨b,i,h⟩ k=some (x,i',h')/\0<=x/\(1<=k->x<k)/\Cur i':=by
 unfold cb
 by_cases hk:k<=0
 · simp only[hk,decide_true,cond_true]
   exact⟨_,_,_,rfl,Int.le_refl _,λh=>by omega,hi⟩
 · simp only[hk,decide_false,cond_false]
   have hnz:nz k=some ():=by unfold nz;rw[if_neg (by omega)]
   obtain⟨x1,i1,h1,e1,a0,a1,c1⟩:=qW hl (h:=h) hi
   by_cases hk2:k<=256
   · simp only[hk2,decide_true,cond_true,e1,bz,hnz]
     rw[Int.tmod_eq_emod_of_nonneg a0]
     exact⟨_,_,_,rfl,Int.emod_nonneg _ (by omega),λ_=>Int.emod_lt_of_pos _ (by omega),c1⟩
   · simp only[hk2,decide_false,cond_false,e1,bz,hnz]
     obtain⟨x2,i2,h2,e2,b0,b1,c2⟩:=qW hl (h:=h1) c1
     obtain⟨x3,i3,h3,e3,d0,d1,c3⟩:=qW hl (h:=h2) c2
     obtain⟨x4,i4,h4,e4,f0,f1,c4⟩:=qW hl (h:=h3) c3
     simp only[e2,e3,e4,bz]
     rw[wr' (z:=x1 * 16777216) (by omega) (by omega),wr' (z:=x2 * 65536) (by omega) (by omega),wr' (z:=x3 * 256) (by omega) (by omega),wr' (z:=x1 * 16777216+x2 * 65536) (by omega) (by omega),wr' (z:=x1 * 16777216+x2 * 65536+x3 * 256) (by omega) (by omega),wr' (by omega) (by omega),Int.tmod_eq_emod_of_nonneg (by omega)]
     exact⟨_,_,_,rfl,Int.emod_nonneg _ (by omega),λ_=>Int.emod_lt_of_pos _ (by omega),c4⟩
theorem tD {i h:Int}(hi:Cur i) (k:Int):∃x i' h',dg ⟨b,i,h⟩ k=some (x,i',h')/\Cur i':=by
 obtain⟨x,i',h',e,_,_,c⟩:=mG hl (h:=h) hi k
 unfold dg
 rw[e]
 exact⟨_,_,_,rfl,c⟩
theorem yd {i h:Int}(hi:Cur i):∃x i' h',nW ⟨b,i,h⟩=some (x,i',h')/\Cur i':=by
 obtain⟨x,i',h',e,x0,x1,c⟩:=mG hl (h:=h) hi 10
 unfold nW
 rw[e,bz]
 have x1:=x1 (by omega)
 obtain⟨y,hy,_⟩:=cJ (xs:=([(-1),0,1,2147483648,(-2147483648),1099511627776,4611686018427387904,(-4611686018427387904),9223372036854775807,(-9223372036854775808)]:List Int)) x0 (by simp;omega)
 dsimp only
 rw[hy]
 exact⟨_,_,_,rfl,c⟩
theorem xY {i h:Int}(hi:Cur i) (k:Int):∃x i' h',lb ⟨b,i,h⟩ k=some (x,i',h')/\Cur i':=by
 obtain⟨x1,i1,h1,e1,c1⟩:=tD hl (h:=h) hi 10
 unfold lb
 rw[e1,bz]
 dsimp only
 cases x1 with
 | true=>
  obtain⟨x2,i2,h2,e2,c2⟩:=yd hl (h:=h1) c1
  obtain⟨x3,i3,h3,e3,a0,a1,c3⟩:=mG hl (h:=h2) c2 4
  have a1:=a1 (by omega)
  obtain⟨y,hy,_⟩:=cJ (xs:=([(-1),k,(IntKind.i64.wrap (k+1)),x2]:List Int)) a0 (by simp;omega)
  simp only[cond_true,e2,e3,hy,bz]
  exact⟨_,_,_,rfl,c3⟩
 | false=>
  obtain⟨x2,i2,h2,e2,c2⟩:=tD hl (h:=h1) c1 2
  simp only[cond_false,e2,bz]
  cases x2 with
  | true=>
   have hm:∃z,ki k 4=some z:=by
    unfold ki
    by_cases h:k<4 <;> simp[h]
   obtain⟨z,hz⟩:=hm
   obtain⟨x3,i3,h3,e3,_,_,c3⟩:=mG hl (h:=h2) c2 (IntKind.i64.wrap (z+1))
   simp only[cond_true,hz,e3,bz]
   exact⟨_,_,_,rfl,c3⟩
  | false=>
   obtain⟨x3,i3,h3,e3,_,_,c3⟩:=mG hl (h:=h2) c2 (IntKind.i64.wrap (k+1))
   simp only[cond_false,e3,bz]
   exact⟨_,_,_,rfl,c3⟩
end
end Go.Proofs.YtpcjbkgbnoocaaaGreat
set_option linter.unusedVariables false
set_option linter.unusedSimpArgs false
namespace Go.Proofs.YtpcjbkgbnoocaaaGreat
open Go Go.Wk Go.Proofs
theorem bqQ {α β:Type}{o:Option α}{f:α->Option β}{P:α->Prop}{R:β->Prop}(h:∃q,o=some q/\P q) (k:∀q,P q->∃r,f q=some r/\R r):∃r,bu o f=some r/\R r:=by
 obtain⟨q,e,hq⟩:=h
 obtain⟨r,hr⟩:=k q hq
 exact⟨r,by rw[e];exact hr.1,hr.2⟩
theorem biQ {β:Type}{c:Bool}{A B:Option β}{R:β->Prop}(h1:c=true->∃r,A=some r/\R r) (h2:c=false->∃r,B=some r/\R r):∃r,(bif c then A else B)=some r/\R r:=by
 cases c with
 | true=>exact h1 rfl
 | false=>exact h2 rfl
theorem wU {b:List Int}:∃h,mT b=some ⟨b,0,h⟩:=by
 obtain⟨s,h1,_⟩:=bL (f:=jM b) (λ_ _=>True) b.length (s:=IntKind.i64.wrap (560017+(b.length:Int))) trivial (λj s hj _=>by
  have hx:b[j]? =some b[j]:=bB hj
  unfold jM
  rw[bC,hx,bz]
  exact⟨_,rfl,trivial⟩)
 unfold mT
 rw[h1]
 exact⟨s,rfl⟩
section
variable {b:List Int}(hl:b.length<=4096)
include hl
theorem dT {i h:Int}(hi:Cur i) (k:Int):∃r,cb ⟨b,i,h⟩ k=some r/\(0<=r.1/\(1<=k->r.1<k)/\Cur r.2.1):=by
 obtain⟨x,i',h',e,r⟩:=mG hl (h:=h) hi k
 exact⟨_,e,r⟩
theorem lJ {i h:Int}(hi:Cur i) (k:Int):∃r,dg ⟨b,i,h⟩ k=some r/\Cur r.2.1:=by
 obtain⟨x,i',h',e,r⟩:=tD hl (h:=h) hi k
 exact⟨_,e,r⟩
theorem wS {i h:Int}(hi:Cur i) (k:Int):∃r,lb ⟨b,i,h⟩ k=some r/\Cur r.2.1:=by
 obtain⟨x,i',h',e,r⟩:=xY hl (h:=h) hi k
 exact⟨_,e,r⟩
theorem oA {i h:Int}(hi:Cur i){k m:Int}(h0: -10<=k) (h1:k<=m) (h2:m<=1000):∃r,fW ⟨b,i,h⟩ k m=some r/\(k<=r.1/\r.1<=m/\Cur r.2.1):=by
 unfold fW
 rw[wr' (z:=m-k) (by omega) (by omega),wr' (by omega) (by omega)]
 refine bqQ (dT hl hi (m-k+1)) λr ⟨a1,a2,a3⟩=>?_
 have a2:=a2 (by omega)
 exact⟨_,rfl,by dsimp only;rw[wr' (by omega) (by omega)];omega,by dsimp only;rw[wr' (by omega) (by omega)];omega,a3⟩
end
end Go.Proofs.YtpcjbkgbnoocaaaGreat
set_option linter.unusedVariables false
set_option linter.unusedSimpArgs false
namespace Go.Proofs.YtpcjbkgbnoocaaaGreat
open Go Go.Wk Go.Proofs
theorem tl (p:Sig):∃z,cB p=some z/\0<=z/\z<=16:=by
 cases hs:sigOk p with
 | true=>exact⟨_,ej hs,by have:=lM hs;omega,(lM hs).2⟩
 | false=>
  unfold cB
  rw[cZ,hs]
  exact⟨0,rfl,by omega,by omega⟩
theorem wl (a b:Int):∃z,gb a b=some z/\a<=z/\b<=z/\(z=a\/z=b):=by
 unfold gb
 by_cases h:b<a
 · rw[decide_eq_true h,cond_true];exact⟨a,rfl,Int.le_refl _,by omega,.inl rfl⟩
 · rw[decide_eq_false h,cond_false];exact⟨b,rfl,by omega,Int.le_refl _,.inr rfl⟩
theorem vQ (k:Int):∃z,iH k=some z:=by
 unfold iH
 cases k==2 <;> cases k==3 <;> cases k==7 <;> exact⟨_,rfl⟩
def SmC (c:Clause):Prop:=c.A.length<=20/\c.B.length<=20
section
variable {b:List Int}(hl:b.length<=4096)
include hl
theorem wV {i h:Int}(hi:Cur i):∃r,fC ⟨b,i,h⟩=some r/\(0<=r.1.Out/\r.1.Out<=3/\Cur r.2.1):=by
 unfold fC
 refine bqQ (lJ hl hi 4) λx6 c1=>bqQ (P:=λq=>Cur q.1/\0<=q.2.2.2/\q.2.2.2<=3) (biQ (λ_=>bqQ (dT hl c1 2) λx8 ⟨_,_,c2⟩=>bqQ (dT hl c2 2) λx11 ⟨a1,a2,c3⟩=>?_) λ_=>⟨_,rfl,c1,by dsimp only;omega,by dsimp only;omega⟩) λq1 ⟨c4,d1,d2⟩=>bqQ (lJ hl c4 20) λx15 c5=>bqQ (P:=λq=>Cur q.1/\0<=q.2.2/\q.2.2<=3) (biQ (λ_=>bqQ (oA hl c5 (by omega) (by omega) (by omega)) λx17 ⟨a1,a2,c6⟩=>⟨_,rfl,c6,a1,a2⟩) λ_=>⟨_,rfl,c5,d1,d2⟩) λq2 ⟨c7,e1,e2⟩=>⟨_,rfl,e1,e2,c7⟩
 have a2:=a2 (by omega)
 exact⟨_,rfl,c3,by dsimp only;rw[wr' (by omega) (by omega)];omega,by dsimp only;rw[wr' (by omega) (by omega)];omega⟩
theorem wQ {i h:Int}(hi:Cur i){n:Int}(n0:0<=n) (n1:n<=16):∃r,fF ⟨b,i,h⟩ n=some r/\(r.1.length<=16/\Cur r.2.1):=by
 obtain⟨k,rfl⟩:=dt n0
 have hr:rng (k:Int)=some ():=by unfold rng;rw[if_pos (by omega)]
 unfold fF
 rw[hr,bz,show yn ((k:Int)-0)=k by omega]
 obtain⟨s,h1,h2,h3⟩:=bL (f:=eF ⟨b,i,h⟩) (λj (s:List Int×Int×Int)=>s.1.length<=j/\Cur s.2.1) k (s:=([],i,h)) ⟨by simp,hi⟩ (λj s hj ⟨a1,a2⟩=>by
  obtain⟨x,e,c⟩:=lJ hl (h:=s.2.2) a2 2
  unfold eF
  rw[e,bz,app1 (by omega) rfl]
  cases x.1 with
  | true=>exact⟨_,rfl,by simp;omega,c⟩
  | false=>exact⟨_,rfl,by dsimp only;omega,c⟩)
 dsimp only
 rw[h1]
 exact⟨_,rfl,by dsimp only;omega,h3⟩
theorem sy {i h:Int}(hi:Cur i) (p:Sig):∃r,jA ⟨b,i,h⟩ p=some r/\(r.1.A.length<=16/\r.1.B.length<=16/\Cur r.2.1):=by
 obtain⟨z,z1,z2,z3⟩:=tl p
 obtain⟨y,y1,y2,y3,y4⟩:=wl z 2
 unfold jA
 rw[z1,bz,y1,bz]
 refine bqQ (dT hl hi 7) λx11 ⟨_,_,c1⟩=>bqQ (wQ hl c1 (by omega) (by omega)) λx15 ⟨l1,c2⟩=>?_
 obtain⟨w,hw⟩:=vQ (IntKind.i64.wrap (1+x11.1))
 rw[hw,bz]
 exact bqQ (P:=λq=>Cur q.1/\q.2.2.length<=16) (biQ (λ_=>bqQ (wQ hl c2 (by omega) (by omega)) λx22 ⟨l2,c3⟩=>⟨_,rfl,c3,l2⟩) λ_=>⟨_,rfl,c2,by simp⟩) λq ⟨c,l⟩=>⟨_,rfl,l1,l,c⟩
theorem sQ {i h:Int}(hi:Cur i) (p:Sig):∃r,gY ⟨b,i,h⟩ p=some r/\(SmC r.1/\Cur r.2.1):=by
 unfold gY
 refine bqQ (sy hl hi p) λx8 ⟨l1,l2,c1⟩=>bqQ (lJ hl c1 10) λx10 c2=>bqQ (P:=λq=>Cur q.1/\q.2.2.2.1.length<=20/\q.2.2.2.2.length<=20) (biQ (λ_=>bqQ (dT hl c2 3) λx12 ⟨_,_,c3⟩=>bqQ (P:=λq=>Cur q.1/\q.2.2.2.1.length<=20/\q.2.2.2.2.length<=20) (biQ (λ_=>bqQ (oA hl c3 (by omega) (by omega) (by omega)) λx16 ⟨_,_,c4⟩=>⟨_,rfl,c4,by dsimp only;omega,by dsimp only;omega⟩) λ_=>bqQ (P:=λq=>Cur q.1/\q.2.2.1.length<=20/\q.2.2.2.length<=20) (biQ (λ_=>bqQ (wS hl c3 15) λx23 c4=>?_) λ_=>bqQ (P:=λq=>Cur q.1/\q.2.2.length<=20) (biQ (λ_=>bqQ (wS hl c3 15) λx32 c4=>?_) λ_=>⟨_,rfl,c3,by dsimp only;omega⟩) λq ⟨c,l⟩=>⟨_,rfl,c,by dsimp only;omega,l⟩) λq ⟨c,l,l'⟩=>⟨_,rfl,c,l,l'⟩) λq ⟨c,l,l'⟩=>⟨_,rfl,c,l,l'⟩) λ_=>⟨_,rfl,c2,by dsimp only;omega,by dsimp only;omega⟩) λq ⟨c,l,l'⟩=>⟨_,rfl,⟨l,l'⟩,c⟩
 · rw[app1 (by omega) rfl]
   exact⟨_,rfl,c4,by dsimp only;rw[yq];simp;omega,by dsimp only;omega⟩
 · rw[app1 (by omega) rfl]
   exact⟨_,rfl,c4,by dsimp only;rw[yq];simp;omega⟩
theorem qQ {i h:Int}(hi:Cur i) (p:Sig){most:Int}(m0:0<=most) (m1:most<=10):∃r,fw ⟨b,i,h⟩ p most=some r/\((∀c∈r.1,SmC c)/\Cur r.2.1):=by
 unfold fw
 rw[wr' (by omega) (by omega)]
 refine bqQ (dT hl hi (most+1)) λx13 ⟨a0,a1,c1⟩=>?_
 have a1:=a1 (by omega)
 obtain⟨o,w1,w2⟩:=bY (f:=eJ ⟨b,i,h⟩ p) (λj (s:List Clause×Int×Int×Int)=>s.1.length<=j/\s.2.1=x13.1-(j:Int)/\0<=s.2.1/\Cur s.2.2.1/\∀c∈s.1,SmC c) (λ_=>False) (λs=>s.1.length<=20/\Cur s.2.2.1/\∀c∈s.1,SmC c) 11 (λj s ⟨q1,q2,q3,q4,q5⟩=>by
  unfold eJ
  by_cases hlt:0<s.2.1
  · obtain⟨x,e,l1,l2,c⟩:=sy hl (h:=s.2.2.2) q4 p
    rw[decide_eq_true hlt,cond_true,e,bz,app1 (by omega) rfl,bz,wr' (by omega) (by omega)]
    refine⟨_,rfl,by omega,by dsimp only;rw[yq];simp;omega,by dsimp only;omega,by dsimp only;omega,c,λy hy=>?_⟩
    rcases yz.1 hy with hy | hy
    · exact q5 y hy
    · rw[yr.1 hy];exact⟨by omega,by omega⟩
  · rw[decide_eq_false hlt,cond_false]
    exact⟨_,rfl,by dsimp only;omega,q4,q5⟩) (2 ^ 64) 0 ([],x13.1,x13.2.1,x13.2.2) (by omega) ⟨by simp,by dsimp only;omega,a0,c1,λc hc=>by cases hc⟩ (by omega)
 match o,w2 with
 | .inr s,⟨l,c,hs⟩=>
  dsimp only
  rw[w1,bz,bE]
  refine bqQ (lJ hl c 20) λx25 c2=>bqQ (P:=λq=>(∀c∈q.1,SmC c)/\Cur q.2.1) (biQ (λ_=>bqQ (sQ hl c2 p) λx29 ⟨s1,c3⟩=>?_) λ_=>⟨_,rfl,hs,c2⟩) λq ⟨a,c⟩=>⟨_,rfl,a,c⟩
  rw[app1 (by omega) rfl]
  refine⟨_,rfl,λy hy=>?_,c3⟩
  rcases yz.1 hy with hy | hy
  · exact hs y hy
  · rw[yr.1 hy];exact s1
end
end Go.Proofs.YtpcjbkgbnoocaaaGreat
set_option linter.unusedVariables false
set_option linter.unusedSimpArgs false
namespace Go.Proofs.YtpcjbkgbnoocaaaGreat
open Go Go.Wk Go.Proofs
def inpF (r:Rival) (outs:List Int):Nat->Int×List Int
 | 0=>(0,[inAt r 0])
 | j+1=>(tab r.Next (inpF r outs j).1 (outs.getD j 0),(inpF r outs j).2++[inAt r (tab r.Next (inpF r outs j).1 (outs.getD j 0))])
theorem qm (r:Rival) (outs:List Int):∀j,(inpF r outs j).2.length=j+1
 | 0=>rfl
 | j+1=>by
  show((inpF r outs j).2++[_]).length=_
  rw[yq,qm r outs j];rfl
def InpOk (p:Sig) (r:Rival) (outs:List Int):Prop:=sigOk p=true/\rivalOk p r=true/\outs.length<=600/\∀o∈outs,0<=o/\o<pw p.Out
theorem wc {p:Sig}{r:Rival}{outs:List Int}(h:InpOk p r outs):cntM (dV r outs) outs.length 0 (0,[inAt r 0])=some (.inr (inpF r outs outs.length)):=by
 obtain⟨hs,hr1,hl,ho⟩:=h
 obtain⟨h1,h2⟩:=cm hs
 have hp:=dK p.Out
 obtain⟨i1,i2,i3,i4,i5⟩:=ez hr1
 have hall:outs.all (inR (pw p.Out))=true:=by
  rw[List.all_eq_true]
  exact λo hm=>cE.2 (ho o hm)
 have hx0:=(kW hr1 (q:=0) (by omega) (by omega)).1
 obtain⟨st,h3,h4⟩:=bL (f:=dV r outs) (λj (t:Int×List Int)=>t=inpF r outs j/\0<=t.1/\t.1<r.In.length) outs.length (s:=(0,[inAt r 0])) ⟨rfl,by omega,by dsimp only;omega⟩ (λj t hj ⟨j1,j2,j3⟩=>by
  have hy:outs[j]? =some outs[j]:=bB hj
  have hgd:outs.getD j 0=outs[j]:=by rw[List.getD_eq_getElem?_getD,hy];rfl
  have ho':=ho _ (it hy)
  obtain⟨row,k1,k2,k3,k4⟩:=nE (n:=(r.In.length:Int)) (l:=pw p.Out) (λrow hrow=>i5 row hrow) j2 (by omega) ho'.1 ho'.2
  have k5:=(kW hr1 k3 k4).1
  have hlen:t.2.length=j+1:=by rw[j1,qm]
  refine⟨(tab r.Next t.1 outs[j],t.2++[inAt r (tab r.Next t.1 outs[j])]),?_,?_,k3,k4⟩
  · unfold dV
    rw[bC,hy,bz,k1,bz,k2,bz,k5,bz,app1 (by omega) rfl,bz]
  · show _=(_,_)
    rw[← j1,hgd])
 rw[h3,h4.1]
theorem vl {p:Sig}{r:Rival}{outs:List Int}(h:InpOk p r outs):ji p r outs=some (inpF r outs outs.length).2:=by
 have hrun:=wc h
 obtain⟨hs,hr1,hl,ho⟩:=h
 obtain⟨h1,h2⟩:=cm hs
 have hp:=dK p.Out
 obtain⟨i1,i2,i3,i4,i5⟩:=ez hr1
 have hall:outs.all (inR (pw p.Out))=true:=by
  rw[List.all_eq_true]
  exact λo hm=>cE.2 (ho o hm)
 have hx0:=(kW hr1 (q:=0) (by omega) (by omega)).1
 unfold ji
 rw[ka,bz]
 simp only[hs,hr1,lH p r hs,(dJ h2).1,(dJ h2).2,dD,hall,bz,Bool.true_and,Bool.and_self,yp,cond_false,decide_eq_false (show ¬(600:Int)<(outs.length:Int) by omega)]
 rw[hx0,bz,hrun,bz,bE]
end Go.Proofs.YtpcjbkgbnoocaaaGreat
set_option linter.unusedVariables false
set_option linter.unusedSimpArgs false
namespace Go.Proofs.YtpcjbkgbnoocaaaGreat
open Go Go.Wk Go.Proofs
def wordOk (w:Word) (n:Int):Bool:=decide ((w.Stem.length:Int)<=600)&&decide (1<=(w.Loop.length:Int))&&decide ((w.Loop.length:Int)<=600)&&w.Stem.all (inR n)&&w.Loop.all (inR n)
theorem sL {w:Word}{n:Int}(h:wordOk w n=true):w.Stem.length<=600/\1<=w.Loop.length/\w.Loop.length<=600/\w.Stem.all (inR n)=true/\w.Loop.all (inR n)=true:=by
 simp only[wordOk,yo,decide_eq_true_eq]at h
 obtain⟨⟨⟨⟨h1,h2⟩,h3⟩,h4⟩,h5⟩:=h
 exact⟨by omega,by omega,by omega,h4,h5⟩
end Go.Proofs.YtpcjbkgbnoocaaaGreat
set_option linter.unusedVariables false
set_option linter.unusedSimpArgs false
namespace Go.Proofs.YtpcjbkgbnoocaaaGreat
open Go Go.Wk Go.Proofs
theorem oR (w:Word) (n:Int):j5 w n=some (wordOk w n):=by
 unfold j5 wordOk
 simp only[dD,bz,andE]
end Go.Proofs.YtpcjbkgbnoocaaaGreat
set_option linter.unusedVariables false
set_option linter.unusedSimpArgs false
namespace Go.Proofs.YtpcjbkgbnoocaaaGreat
open Go Go.Wk Go.Proofs
theorem pF {p:Sig}(hs:sigOk p=true):cn p=some (pw p.In):=by
 obtain⟨hi,_⟩:=cm hs
 unfold cn
 rw[(dJ hi).1,bz,(dJ hi).2]
def behindR (r:Rival) (q:Int) (os:List Int):Int:=os.foldl (λq o=>tab r.Next q o) q
def lettersR (p:Sig) (r:Rival):Int->List Int->List Int
 | _,[]=>[]
 | q,o::os=>(o * pw p.In+inAt r q)::lettersR p r (tab r.Next q o) os
theorem eG (p:Sig) (r:Rival):∀(os:List Int) (q:Int),(lettersR p r q os).length=os.length
 | [],_=>rfl
 | o::os,q=>by simp[lettersR,eG p r os]
section
variable {p:Sig}{r:Rival}(hr:rivalOk p r=true) (hs:sigOk p=true)
include hr
theorem nH {q:Int}{xs:List Int}(q0:0<=q) (q1:q<r.In.length) (hx:xs.all (inR (pw p.Out))=true):0<=behindR r q xs/\behindR r q xs<r.In.length:=by
 induction xs generalizing q with
 | nil=>exact⟨q0,q1⟩
 | cons x xs ih=>
  rw[List.all_cons,yo]at hx
  obtain⟨i0,i1⟩:=cE.1 hx.1
  obtain⟨_,_,_,t0,t1⟩:=nX hr q0 q1 i0 i1
  exact ih t0 t1 hx.2
include hs
theorem kJ {q:Int}{xs acc:List Int}(q0:0<=q) (q1:q<r.In.length) (hx:xs.all (inR (pw p.Out))=true) (hl:xs.length+acc.length<=1000000):eQ xs acc p r q=some (acc++lettersR p r q xs,behindR r q xs):=by
 rw[List.all_eq_true]at hx
 have pI:=dK p.In
 have pO:=dK p.Out
 unfold eQ
 rw[(uV (f:=dW xs p r) (λ(s:List Int×Int) o=>(s.1++[o * pw p.In+inAt r s.2],tab r.Next s.2 o)) (λj s=>0<=s.2/\s.2<r.In.length/\s.1.length=acc.length+j) (λi x s hi ⟨k0,k1,k2⟩=>by
  obtain⟨i0,i1⟩:=cE.1 (hx x (it hi))
  obtain⟨row,t1,t2,t3⟩:=nX hr k0 k1 i0 i1
  obtain⟨u1,u2,u3⟩:=kW hr k0 k1
  have hlt:=(gs.1 hi).1
  have hmul:0<=x * pw p.In:=Int.mul_nonneg i0 (by omega)
  have hmul2:x * pw p.In<=4 * 4:=Int.mul_le_mul (by omega) (by omega) (by omega) (by omega)
  unfold dW
  rw[bC,hi,bz,u1,bz,pF hs,bz,wr' (z:=x * pw p.In) (by omega) (by omega),wr' (by omega) (by omega),app1 (by omega) rfl,bz,t1,bz,t2]
  exact⟨rfl,t3.1,t3.2,by simp;omega⟩) (s:=(acc,q)) ⟨q0,q1,rfl⟩).1]
 have e:∀(xs:List Int) (q:Int) (acc:List Int),xs.foldl (λ(s:List Int×Int) o=>(s.1++[o * pw p.In+inAt r s.2],tab r.Next s.2 o)) (acc,q)=(acc++lettersR p r q xs,behindR r q xs):=by
  intro xs
  induction xs with
  | nil=>intro q acc;simp[behindR,lettersR]
  | cons x xs ih=>intro q acc;rw[List.foldl_cons,ih];simp[behindR,lettersR]
 rw[e]
 rfl
end
end Go.Proofs.YtpcjbkgbnoocaaaGreat
set_option linter.unusedVariables false
set_option linter.unusedSimpArgs false
namespace Go.Proofs.YtpcjbkgbnoocaaaGreat
open Go Go.Wk Go.Proofs
section
variable (n:Int) (T:List Int) (z:Int)
theorem mX:eB (T.map λx=>[dq n x,ds n x]) (dq n z) (ds n z)=some (cS T z):=by
 unfold eB cS
 rw[yC,dC (f:=dS (T.map λx=>[dq n x,ds n x]) (dq n z) (ds n z)) (λx=>z==x) (λi=>(i:Int)) (xs:=T) (λi x hx=>by
  unfold dS
  rw[bC,List.getElem?_map,hx]
  have i0:idx [dq n x,ds n x] 0=some (dq n x):=rfl
  have i1:idx [dq n x,ds n x] 1=some (ds n x):=rfl
  simp only[Option.map_some,bz,i0,i1,andE,yf]
  cases z==x <;> rfl),bz]
 cases T.findIdx? (λx=>z==x) <;> rfl
def seenOf (n:Int):Nat->List Int->List ((Int×Int)×Int)
 | _,[]=>[]
 | k,x::T=>((dq n x,ds n x),(k:Int))::seenOf n (k+1) T
theorem sj:∀(T:List Int) (k:Nat),getK (seenOf n k T) (dq n z,ds n z)=(T.findIdx? (λx=>z==x)).map (λi=>((k+i:Nat):Int))
 | [],_=>rfl
 | x::T,k=>by
  simp only[seenOf,getK,List.findIdx?_cons]
  by_cases h:z=x
  · simp[h]
  · have h1:¬((dq n z,ds n z)=(dq n x,ds n x)):=λe=>h (uZ (Prod.mk.injEq .. ▸ e).1 (Prod.mk.injEq .. ▸ e).2)
    have h2:(z==x)=false:=by rw[beq_eq_false_iff_ne];exact h
    rw[if_neg h1,h2,sj T (k+1)]
    cases T.findIdx? (λx=>z==x) with
    | none=>rfl
    | some i=>simp;omega
theorem sv:∀(T:List Int) (k:Nat) (v:Int),z∉T->v=((k+T.length:Nat):Int)->putK (seenOf n k T) (dq n z,ds n z) v=seenOf n k (T++[z])
 | [],k,v,_,hv=>by simp[seenOf,putK,hv]
 | x::T,k,v,hz,hv=>by
  have h:¬z=x:=λe=>hz (by rw[e];exact List.mem_cons_self ..)
  have h1:¬((dq n z,ds n z)=(dq n x,ds n x)):=λe=>h (uZ (Prod.mk.injEq .. ▸ e).1 (Prod.mk.injEq .. ▸ e).2)
  simp only[seenOf,putK,List.cons_append]
  rw[if_neg h1,sv T (k+1) v (λhm=>hz (List.mem_cons_of_mem _ hm)) (by rw[hv,List.length_cons];omega)]
end
def chn (b:Int->Int):Int->List Int->Int->Prop
 | x,[],y=>x=y
 | x,z::zs,y=>x=z/\chn b (b x) zs y
theorem ui {b:Int->Int}:∀(xs:List Int) (x y:Int),chn b x xs y->chn b x (xs++[y]) (b y)
 | [],x,y,h=>⟨h,by cases h;rfl⟩
 | z::zs,x,y,h=>⟨h.1,ui zs _ y h.2⟩
theorem qH {b:Int->Int}{ys:List Int}:∀(xs:List Int) (x z:Int),chn b x (xs++ys) z->∃y,chn b x xs y/\chn b y ys z
 | [],x,z,h=>⟨x,rfl,h⟩
 | w::ws,x,z,h=>by
  obtain⟨y,h1,h2⟩:=qH ws _ z h.2
  exact⟨y,⟨h.1,h1⟩,h2⟩
theorem qP {b:Int->Int}{q0:Int}:∀(k:Nat) (T:List Int) (q:Int),chn b q0 T q->chn b q0 (lasso b k T q).1 (lasso b k T q).2
 | 0,T,q,h=>h
 | k+1,T,q,h=>by
  unfold lasso
  by_cases hq:q∈T
  · rw[if_pos hq];exact h
  · rw[if_neg hq];exact qP k _ _ (ui T q0 q h)
theorem rz {p:Sig}{r:Rival}{b o:Int->Int}{part:Int->List Int}{n:Int}{M:Nat}(hb:∀q:Int,0<=q->q<(M:Nat)->0<=b q/\b q<(M:Nat))
 (hd:∀z:Int,0<=z->z<(M:Int)->part z=[o z * pw p.In+inAt r (ds n z)]/\ds n (b z)=tab r.Next (ds n z) (o z)/\0<=o z/\o z<pw p.Out):∀(xs:List Int) (x y:Int),chn b x xs y->0<=x->x<(M:Int) ->
 xs.flatMap part=lettersR p r (ds n x) (xs.map o)/\behindR r (ds n x) (xs.map o)=ds n y/\((xs.map o).all (inR (pw p.Out))=true)
 | [],x,y,h,_,_=>by cases h;exact⟨rfl,rfl,rfl⟩
 | z::zs,x,y,h,h0,h1=>by
  obtain⟨rfl,h⟩:=h
  obtain⟨d1,d2,d3,d4⟩:=hd x h0 h1
  obtain⟨e1,e2,e3⟩:=rz hb hd zs (b x) y h (hb x h0 h1).1 (hb x h0 h1).2
  rw[d2]at e1 e2
  refine⟨?_,e2,?_⟩
  · rw[List.flatMap_cons,d1,e1];rfl
  · rw[List.map_cons,List.all_cons,e3,cE.2 ⟨d3,d4⟩];rfl
def Dw (p:Sig) (r:Rival) (w:Word):Prop:=sigOk p=true/\rivalOk p r=true/\∃xs ys:List Int,xs.all (inR (pw p.Out))=true/\ys.all (inR (pw p.Out))=true/\ys≠[]/\w.Stem=lettersR p r 0 xs/\w.Loop=lettersR p r (behindR r 0 xs) ys/\behindR r (behindR r 0 xs) ys=behindR r 0 xs
theorem sx (p:Sig) (m:Machine) (r:Rival) (hri:r.In.length<=1048576):∃a b,mi p m r=some (a,b)/\mv p m r=some (a,b)/\a.Stem.length<=600/\a.Loop.length<=600/\(b=true->Dw p r a):=by
 unfold mi mv
 rw[qj,qY p r hri,ka,bz,bz]
 cases hs:sigOk p with
 | false=>exact⟨_,_,rfl,rfl,by simp,by simp,nofun⟩
 | true=>
  rw[qg hs,lH p r hs]
  cases hm:machOk p m with
  | false=>exact⟨_,_,rfl,rfl,by simp,by simp,nofun⟩
  | true=>
   cases hr:rivalOk p r with
   | false=>exact⟨_,_,rfl,rfl,by simp,by simp,nofun⟩
   | true=>
    simp only[Bool.and_self,yp,cond_false,bz]
    have pI:=dK p.In
    have pO:=dK p.Out
    obtain⟨n1,n2,n3,n4,n5⟩:=tj hm
    obtain⟨k1,k2,_⟩:=ez hr
    -- the letter, the next pair
    generalize hnn:(r.In.length:Int)=n
    generalize hmm:(m.Next.length:Int)=k
    have hn1:1<=n:=by omega
    have hk1:1<=k:=by omega
    obtain⟨M,hM⟩:=dt (z:=k * n) (Int.mul_nonneg (by omega) (by omega))
    have hMb:k * n<=48 * 256:=Int.mul_le_mul (by omega) (by omega) (by omega) (by omega)
    let u:Int->Int:=λz=>inAt r (ds n z)
    let o:Int->Int:=λz=>tab m.Out (dq n z) (u z)
    let b:Int->Int:=λz=>tab m.Next (dq n z) (u z) * n+tab r.Next (ds n z) (o z)
    let part:Int->List Int:=λz=>[o z * pw p.In+u z]
    have hpart:∀x,(part x).length=1:=λx=>rfl
    have hz:∀z,0<=z->z<(M:Int)->(0<=dq n z/\dq n z<m.Next.length/\0<=ds n z/\ds n z<r.In.length)/\(idx r.In (ds n z)=some (u z)/\0<=u z/\u z<pw p.In)/\(∃row,idx m.Out (dq n z)=some row/\idx row (u z)=some (o z)/\0<=o z/\o z<pw p.Out) /\
     (∃row,idx m.Next (dq n z)=some row/\idx row (u z)=some (tab m.Next (dq n z) (u z))/\0<=tab m.Next (dq n z) (u z)/\tab m.Next (dq n z) (u z)<m.Next.length)/\(∃row,idx r.Next (ds n z)=some row/\idx row (o z)=some (tab r.Next (ds n z) (o z))/\0<=tab r.Next (ds n z) (o z)/\tab r.Next (ds n z) (o z)<r.In.length) /\
     dq n (b z)=tab m.Next (dq n z) (u z)/\ds n (b z)=tab r.Next (ds n z) (o z):=λz z0 z1=>by
     obtain⟨d0,d1,d2,d3⟩:=yg (m:=k) hn1 z0 (by omega)
     have hu:=kW hr d2 (by omega:ds n z<r.In.length)
     have ho:=nE n5 d0 (by omega:dq n z<m.Out.length) hu.2.1 hu.2.2
     have hx:=nE n4 d0 (by omega:dq n z<m.Next.length) hu.2.1 hu.2.2
     have o0:=ho.choose_spec.2.2.1
     have o1:=ho.choose_spec.2.2.2
     have hy:=nX hr d2 (by omega:ds n z<r.In.length) o0 o1
     have y0:=hy.choose_spec.2.2.1
     have y1:=hy.choose_spec.2.2.2
     have hc:=xO (n:=n) (q:=tab m.Next (dq n z) (u z)) hn1 y0 (by omega)
     exact⟨⟨d0,by omega,d2,by omega⟩,hu,ho,hx,hy,hc.1,hc.2⟩
    have hb:∀q:Int,0<=q->q<(M:Nat)->0<=b q/\b q<(M:Nat):=λz z0 z1=>by
     obtain⟨_,_,_,⟨_,_,_,x0,x1⟩,⟨_,_,_,y0,y1⟩,_⟩:=hz z z0 z1
     have h1:0<=tab m.Next (dq n z) (u z) * n:=Int.mul_nonneg x0 (by omega)
     have h2:(tab m.Next (dq n z) (u z)+1) * n<=k * n:=Int.mul_le_mul_of_nonneg_right (by omega) (by omega)
     rw[Int.add_mul,Int.one_mul]at h2
     show 0<=tab m.Next (dq n z) (u z) * n+tab r.Next (ds n z) (o z)/\tab m.Next (dq n z) (u z) * n+tab r.Next (ds n z) (o z)<(M:Int)
     omega
    have hlet:∀z,0<=z->z<(M:Int)->IntKind.i64.wrap (IntKind.i64.wrap (o z * pw p.In)+u z)=o z * pw p.In+u z:=λz z0 z1=>by
     obtain⟨_,⟨_,u0,u1⟩,⟨_,_,_,o0,o1⟩,_⟩:=hz z z0 z1
     have hmul:0<=o z * pw p.In:=Int.mul_nonneg o0 (by omega)
     have hmul2:o z * pw p.In<=4 * 4:=Int.mul_le_mul (by omega) (by omega) (by omega) (by omega)
     rw[wr' (z:=o z * pw p.In) (by omega) (by omega),wr' (by omega) (by omega)]
    have z00:dq n 0=0/\ds n 0=0:=by unfold dq ds;simp
    have r1:=ox (f:=ja p m r) (λT z=>(T.map (λx=>[dq n x,ds n x]),T.flatMap part,dq n z,ds n z)) hb (λT z hT hr' a0 a1=>by
     obtain⟨_,⟨u1,u2,u3⟩,⟨ro,o1,o2,o3,o4⟩,⟨rx,x1,x2,_⟩,⟨ry,y1,y2,_⟩,c1,c2⟩:=hz z a0 a1
     have hfl:=eH (part:=part) hpart T
     unfold ja
     dsimp only
     rw[mX,bz,vo]
     by_cases hq:z∈T
     · simp only[hq,decide_true,yp,cond_false,if_true]
     · simp only[hq,decide_false,Bool.not_false,cond_true,if_false]
       rw[app1 (by rw[yC];omega) rfl,bz,u1,bz,o1,bz,o2,bz,qC hs u2 u3 o3 o4,bz,app1 (by rw[hfl];omega) rfl,bz,x1,bz,x2,bz,y1,bz,y2,bz,List.map_append,List.flatMap_append,c1,c2]
       simp only[List.map_cons,List.map_nil,List.flatMap_cons,List.flatMap_nil,List.append_nil]
       rfl) (M+1) (2 ^ 64) [] 0 (by simp) (by omega) (by simp) (by simp) (by omega) (by have:1 * 1<=k * n:=Int.mul_le_mul hk1 hn1 (by omega) (by omega);omega)
    have r2:=qO (f:=jd p m r) (λT z=>(T.flatMap part,dq n z,ds n z,seenOf n 0 T)) (λT z=>match fB (T.flatMap part) (cS T z) with | some x=>x | none=>(⟨[],[]⟩,false)) hb (λT z hn' hr' a0 a1=>by
     obtain⟨⟨d0,d1,d2,d3⟩,⟨u1,u2,u3⟩,⟨ro,o1,o2,o3,o4⟩,⟨rx,x1,x2,_⟩,⟨ry,y1,y2,_⟩,c1,c2⟩:=hz z a0 a1
     have hfl:=eH (part:=part) hpart T
     have hT:=cT M T hn' hr'
     have hwf:kwI2 (dq n z,ds n z)=true:=by
      unfold kwI2 wf2
      exact decide_eq_true ⟨by omega,by omega,by omega,by omega⟩
     unfold jd
     dsimp only
     unfold mget mset
     rw[if_pos hwf,if_pos hwf,sj]
     by_cases hq:z∈T
     · obtain⟨i,p1,p2,p3⟩:=nL hq
       have hfi:T.findIdx? (λx=>z==x)=some i:=by
        unfold cS at p1
        cases hh:T.findIdx? (λx=>z==x) with
        | none=>rw[hh]at p1;simp only at p1;omega
        | some j=>rw[hh]at p1;simp only at p1;congr 1;omega
       have hcw:∃x,fB (T.flatMap part) (cS T z)=some x:=by
        unfold fB
        rw[p1,wr' (by omega) (by omega),orE,bz]
        cases(decide (600<(i:Int))||decide (600<((T.flatMap part).length:Int)-(i:Int))) with
        | true=>exact⟨_,rfl⟩
        | false=>
         obtain⟨g1,g2⟩:=tL (part:=part) hpart [] (T:=T) (k:=i) (by omega)
         simp only[List.nil_append,yw,Nat.zero_add,Nat.mul_one]at g1 g2
         rw[g1,g2]
         simp only[cond_false,bz]
         have f1:=eH (part:=part) hpart (T.take i)
         have f2:=eH (part:=part) hpart (T.drop i)
         rw[yv]at f1
         rw[List.length_drop]at f2
         rw[appL (by rw[yw];omega) rfl,appL (by rw[yw];omega) rfl]
         exact⟨_,rfl⟩
       obtain⟨x,hx⟩:=hcw
       simp only[hfi,hq,Option.map_some,Nat.zero_add,bz,cond_true,if_true]
       rw[hx]
       rw[← p1,hx]
       rfl
     · have hfi:T.findIdx? (λx=>z==x)=none:=by
        rw[List.findIdx?_eq_none_iff]
        intro x hx
        rw[beq_eq_false_iff_ne]
        exact λe=>hq (e ▸ hx)
       simp only[hfi,hq,Option.map_none,bz,cond_false,if_false]
       rw[sv n z T 0 _ hq (by rw[hfl];omega),u1,bz,o1,bz,o2,bz,di hs,bz,hlet z a0 a1,app1 (by rw[hfl];omega) rfl,bz,x1,bz,x2,bz,y1,bz,y2,bz,List.flatMap_append,c1,c2]
       simp only[List.flatMap_cons,List.flatMap_nil,List.append_nil]
       rfl) (M+1) (2 ^ 64) [] 0 (by simp) (by omega) (by simp) (by simp) (by omega) (by have:1 * 1<=k * n:=Int.mul_le_mul hk1 hn1 (by omega) (by omega);omega)
    obtain⟨l1,l2,l3⟩:=qd hb (M+1) [] 0 (by simp) (by simp) (by simp) (by omega) (by have:1 * 1<=k * n:=Int.mul_le_mul hk1 hn1 (by omega) (by omega);omega)
    have l4:=qP (b:=b) (q0:=0) (M+1) [] 0 rfl
    generalize lasso b (M+1) [] 0=L at r1 r2 l1 l2 l3 l4
    obtain⟨T,z⟩:=L
    dsimp only at r1 r2 l1 l2 l3 l4
    have hT:=cT _ T l2 l3
    have hfl:=eH (part:=part) hpart T
    rw[z00.1,z00.2]at r1 r2
    simp only[List.map_nil,List.flatMap_nil]at r1 r2
    rw[show seenOf n 0 []=[] from rfl]at r2
    rw[r1,r2]
    simp only[bz,bE,um,mX]
    obtain⟨i,p1,p2,p3⟩:=nL l1
    obtain⟨g1,g2⟩:=tL (part:=part) hpart [] (T:=T) (k:=i) (by omega)
    simp only[List.nil_append,yw,Nat.zero_add,Nat.mul_one]at g1 g2
    have f1:=eH (part:=part) hpart (T.take i)
    have f2:=eH (part:=part) hpart (T.drop i)
    rw[yv,Nat.min_eq_left (by omega)]at f1
    rw[List.length_drop]at f2
    rw[p1]
    unfold fB cA
    rw[g1,g2]
    simp only[bz]
    rw[appL (by rw[yw];omega) rfl,appL (by rw[yw];omega) rfl,wr' (by omega) (by omega)]
    simp only[bz,List.nil_append,orE]
    rw[show(((T.take i).flatMap part).length:Int)=(i:Int) from by omega,show((T.flatMap part).length:Int)-(i:Int)=(((T.drop i).flatMap part).length:Int) from by omega]
    cases hc:(decide (600<(i:Int))||decide (600<(((T.drop i).flatMap part).length:Int))) with
    | true=>exact⟨_,_,rfl,rfl,by simp,by simp,nofun⟩
    | false=>
     rw[Bool.or_eq_false_iff,decide_eq_false_iff_not,decide_eq_false_iff_not]at hc
     refine⟨_,_,rfl,rfl,by dsimp only;omega,by dsimp only;omega,λ_=>?_⟩
     have hd:∀z:Int,0<=z->z<(M:Int)->part z=[o z * pw p.In+inAt r (ds n z)]/\ds n (b z)=tab r.Next (ds n z) (o z)/\0<=o z/\o z<pw p.Out:=λz z0 z1=>by
      obtain⟨_,_,⟨_,_,_,o3,o4⟩,_,_,_,c2⟩:=hz z z0 z1
      exact⟨rfl,c2,o3,o4⟩
     have hM0:(0:Int)<(M:Int):=by have:1 * 1<=k * n:=Int.mul_le_mul hk1 hn1 (by omega) (by omega);omega
     rw[← List.take_append_drop i T]at l4
     obtain⟨y,c1,c2⟩:=qH _ _ _ l4
     have hz2:=l3 z l1
     have hdr:T.drop i=z::T.drop (i+1):=by
      rw[List.drop_eq_getElem_cons p2]
      rw[bB p2]at p3
      rw[Option.some.inj p3]
     have hy:y=z:=by rw[hdr]at c2;exact c2.1
     subst hy
     obtain⟨e1,e2,e3⟩:=rz hb hd _ _ _ c1 (by omega) hM0
     obtain⟨e4,e5,e6⟩:=rz hb hd _ _ _ c2 hz2.1 hz2.2
     rw[z00.2]at e1 e2
     exact⟨hs,hr,(T.take i).map o,(T.drop i).map o,e3,e6,by rw[hdr];simp,e1,by rw[e2];exact e4,by rw[e2];exact e5⟩
end Go.Proofs.YtpcjbkgbnoocaaaGreat
set_option linter.unusedVariables false
set_option linter.unusedSimpArgs false
namespace Go.Proofs.YtpcjbkgbnoocaaaGreat
open Go Go.Wk Go.Proofs
theorem xe {p:Sig}{r:Rival}(hs:sigOk p=true) (hr:rivalOk p r=true){xs ys:List Int}(hx:xs.all (inR (pw p.Out))=true) (hy:ys.all (inR (pw p.Out))=true) (hl:xs.length<=600) (hm:ys.length<=600) (hne:ys≠[])
 (hq:behindR r (behindR r 0 xs) ys=behindR r 0 xs):iY p r ⟨xs,ys⟩=some (⟨lettersR p r 0 xs,lettersR p r (behindR r 0 xs) ys⟩,true):=by
 have pO:=dK p.Out
 obtain⟨hi,ho⟩:=cm hs
 obtain⟨n1,n2,_⟩:=ez hr
 have hy0:0<ys.length:=List.length_pos_iff.2 hne
 have hw:wordOk ⟨xs,ys⟩ (pw p.Out)=true:=by
  unfold wordOk
  rw[hx,hy,decide_eq_true (by dsimp only;omega),decide_eq_true (by dsimp only;omega),decide_eq_true (by dsimp only;omega)]
  rfl
 unfold iY
 simp only[ka,hs,lH p r hs,hr,Bool.and_self,yp,cond_false,bz,(dJ ho).1,(dJ ho).2,oR,hw]
 rw[kJ hr hs (by omega) (by omega) hx (by simp;omega),bz,List.nil_append]
 dsimp only
 have q0:=nH hr (q:=0) (by omega) (by omega) hx
 generalize behindR r 0 xs=q at q0 hq
 have hb:∀q:Int,0<=q->q<(r.In.length:Nat)->0<=behindR r q ys/\behindR r q ys<(r.In.length:Nat):=λq a b=>nH hr a b hy
 have hpart:∀x,(lettersR p r x ys).length=ys.length:=λx=>eG p r _ _
 have hbase:(lettersR p r 0 xs).length=xs.length:=eG p r _ _
 have r2:=ox (f:=fp p r ⟨xs,ys⟩) (λT q=>(T,lettersR p r 0 xs++T.flatMap (λq=>lettersR p r q ys),q)) hb (λT q hT hrr a0 a1=>by
  unfold fp
  dsimp only
  rw[cR,bz,wz]
  by_cases hq:q∈T
  · simp[hq]
  · have hfl:=eH (part:=λq=>lettersR p r q ys) hpart T
    have hmul:T.length * ys.length<=256 * 600:=Nat.mul_le_mul (by omega) hm
    rw[app1 (by omega) rfl,kJ hr hs a0 a1 hy (by rw[yq,hfl];omega)]
    simp[hq]) (r.In.length+1) (2 ^ 64) [] q (by simp) (by omega) (by simp) (by simp) q0.1 q0.2
 have hl2:lasso (λq=>behindR r q ys) (r.In.length+1) [] q=([q],q):=by
  obtain⟨k,hk⟩:∃k,r.In.length=k+1:=⟨r.In.length-1,by omega⟩
  rw[hk]
  unfold lasso
  rw[if_neg (by simp)]
  unfold lasso
  rw[hq,if_pos (by simp),List.nil_append]
 rw[hl2]at r2
 simp only[List.flatMap_nil,List.append_nil]at r2
 rw[r2]
 simp only[bz,bE,mg]
 obtain⟨k,p1,p2,p3⟩:=nL (xs:=[q]) (v:=q) (by simp)
 obtain rfl:k=0:=by simp at p2;exact p2
 rw[p1]
 have e1:IntKind.i64.wrap ((xs.length:Int)+IntKind.i64.wrap (((0:Nat):Int) * (ys.length:Int)))=((xs.length+0 * ys.length:Nat):Int):=by
  rw[show((0:Nat):Int) * (ys.length:Int)=0 by simp,wr' (z:=0) (by omega) (by omega),wr' (by omega) (by omega)]
  simp
 obtain⟨e2,e3⟩:=tL (part:=λq=>lettersR p r q ys) hpart (lettersR p r 0 xs) (T:=[q]) (k:=0) (by simp)
 rw[hbase]at e2 e3
 rw[e1]
 unfold fB
 rw[e2,e3]
 simp only[bz,List.take_zero,List.drop_zero,List.flatMap_nil,List.append_nil,List.flatMap_cons]
 rw[appL (by rw[yw,hbase];omega) rfl,appL (by rw[yw,hpart];omega) rfl]
 simp only[bz,List.nil_append,orE]
 rw[yq,hbase,hpart,wr' (by omega) (by omega)]
 rw[decide_eq_false (by omega),decide_eq_false (by omega)]
 rfl
theorem sP (xs:List Int):bX xs xs=some true:=by rw[eh,decide_eq_true rfl]
theorem ma {α:Type}{xs:List α}{a b:Nat}(h0:a<=b) (h1:b<=xs.length):∃ys,subS xs (a:Int) (b:Int)=some ys/\ys.length=b-a:=by
 unfold subS
 rw[if_pos ⟨by omega,by omega,by omega⟩]
 exact⟨_,rfl,by simp;omega⟩
theorem uC (w:Word) (h1:1<=w.Loop.length) (h2:w.Loop.length<=600) (h3:w.Stem.length<=600):∃v,gn w=some v:=by
 unfold gn
 rw[appL (by rw[yw];omega) rfl,bz,List.nil_append,appL (by rw[yw];omega) rfl,List.nil_append]
 obtain⟨o,k1,k2⟩:=bY (f:=fg) (λj (s:List Int×Int)=>s.1.length=w.Loop.length/\s.2=1+(j:Int)) (λ_=>False) (λs=>1<=s.1.length/\s.1.length<=600) w.Loop.length (λj s ⟨q1,q2⟩=>by
  obtain⟨L,n⟩:=s
  dsimp only at q1 q2
  subst q2
  unfold fg
  by_cases hlt:(1+(j:Int))<=(L.length:Int)
  · have hnz:nz (1+(j:Int))=some ():=by unfold nz;rw[if_neg (by omega)]
    obtain⟨y1,f1,_⟩:=ma (xs:=L) (a:=1+j) (b:=L.length) (by omega) (by omega)
    obtain⟨y2,f2,_⟩:=ma (xs:=L) (a:=0) (b:=L.length-(1+j)) (by omega) (by omega)
    obtain⟨y3,f3,f4⟩:=ma (xs:=L) (a:=0) (b:=1+j) (by omega) (by omega)
    have g1:((1+j:Nat):Int)=1+(j:Int):=by omega
    have g2:((L.length-(1+j):Nat):Int)=(L.length:Int)-(1+(j:Int)):=by omega
    rw[g1]at f1 f3
    rw[g2]at f2
    replace f2:subS L 0 ((L.length:Int)-(1+(j:Int)))=some y2:=f2
    replace f3:subS L 0 (1+(j:Int))=some y3:=f3
    dsimp only
    rw[decide_eq_true hlt,cond_true,hnz,bz,wr' (z:=(L.length:Int)-(1+(j:Int))) (by omega) (by omega),wr' (z:=1+(j:Int)+1) (by omega) (by omega)]
    obtain⟨c,hc⟩:∃c,(bif (Int.tmod (L.length:Int) (1+(j:Int))==0) then bu (subS L (1+(j:Int)) (L.length:Int)) λx24=>bu (subS L 0 ((L.length:Int)-(1+(j:Int)))) λx30=>bu (bX x24 x30) λx31=>some x31 else some false)=some c:=by
     cases(Int.tmod (L.length:Int) (1+(j:Int))==0) with
     | false=>exact⟨_,rfl⟩
     | true=>rw[cond_true,f1,bz,f2,bz,eh];exact⟨_,rfl⟩
    rw[hc,bz]
    cases c with
    | true=>rw[cond_true,f3];exact⟨_,rfl,by dsimp only;omega,by dsimp only;omega⟩
    | false=>exact⟨_,rfl,by omega,q1,by dsimp only;omega⟩
  · rw[decide_eq_false hlt,cond_false]
    exact⟨_,rfl,by dsimp only;omega,by dsimp only;omega⟩) (2 ^ 64) 0 (w.Loop,1) (by omega) ⟨rfl,by dsimp only;omega⟩ (by omega)
 rw[k1,bz]
 match o,k2 with
 | .inr s,⟨s1,s2⟩=>
  rw[bE,bz]
  obtain⟨o,k3,k4⟩:=bY (f:=fq) (λj (t:List Int×List Int)=>t.1.length=s.1.length/\t.2.length+j=w.Stem.length) (λ_=>False) (λ_=>True) w.Stem.length (λj t ⟨q1,q2⟩=>by
   obtain⟨L,S⟩:=t
   dsimp only at q1 q2
   unfold fq
   dsimp only
   by_cases hlt:0<(S.length:Int)
   · obtain⟨x,g1,_⟩:=cJ (xs:=S) (z:=(S.length:Int)-1) (by omega) (by omega)
     obtain⟨y,g2,_⟩:=cJ (xs:=L) (z:=(L.length:Int)-1) (by omega) (by omega)
     obtain⟨z1,f1,f2⟩:=ma (xs:=S) (a:=0) (b:=S.length-1) (by omega) (by omega)
     obtain⟨z2,f3,f4⟩:=ma (xs:=L) (a:=0) (b:=L.length-1) (by omega) (by omega)
     rw[show((S.length-1:Nat):Int)=(S.length:Int)-1 by omega]at f1
     rw[show((L.length-1:Nat):Int)=(L.length:Int)-1 by omega]at f3
     replace f1:subS S 0 ((S.length:Int)-1)=some z1:=f1
     replace f3:subS L 0 ((L.length:Int)-1)=some z2:=f3
     rw[decide_eq_true hlt,cond_true,wr' (z:=(S.length:Int)-1) (by omega) (by omega),wr' (z:=(L.length:Int)-1) (by omega) (by omega),g1,bz,g2,bz,bz]
     cases(x==y) with
     | true=>
      rw[cond_true,f1,bz,bz,f3,bz,appL (by rw[List.length_singleton];omega) rfl]
      exact⟨_,rfl,by omega,by dsimp only;rw[yq,List.length_singleton];omega,by dsimp only;omega⟩
     | false=>exact⟨_,rfl,trivial⟩
   · rw[decide_eq_false hlt,cond_false]
     exact⟨_,rfl,trivial⟩) (2 ^ 64) 0 (s.1,w.Stem) (by omega) ⟨rfl,by dsimp only;omega⟩ (by omega)
  rw[k3,bz]
  match o,k4 with
  | .inr t,_=>exact⟨_,rfl⟩
theorem uO {w:Word}(h:wordOk w 16=true):jL w w=some true:=by
 obtain⟨w1,w2,w3,w4,w5⟩:=sL h
 obtain⟨v,hv⟩:=uC w w2 w3 w1
 unfold jL
 rw[oR,h,hv]
 simp only[bz,yp,cond_false,sP,cond_true]
theorem ms {p:Sig}{r:Rival}(hs:sigOk p=true) (hr:rivalOk p r=true):∀{xs:List Int}{q:Int},0<=q->q<r.In.length->xs.all (inR (pw p.Out))=true->(lettersR p r q xs).all (inR (pw p.In * pw p.Out))=true
 | [],_,_,_,_=>rfl
 | x::xs,q,q0,q1,hx=>by
  rw[List.all_cons,yo]at hx
  obtain⟨i0,i1⟩:=cE.1 hx.1
  obtain⟨_,_,_,t0,t1⟩:=nX hr q0 q1 i0 i1
  obtain⟨_,u0,u1⟩:=kW hr q0 q1
  have pI:=dK p.In
  have hmul:0<=x * pw p.In:=Int.mul_nonneg i0 (by omega)
  have hmul2:(x+1) * pw p.In<=pw p.Out * pw p.In:=Int.mul_le_mul_of_nonneg_right (by omega) (by omega)
  rw[Int.add_mul,Int.one_mul,Int.mul_comm (pw p.Out)]at hmul2
  show(_::_).all _=true
  rw[List.all_cons,cE.2 ⟨by omega,by omega⟩,ms hs hr t0 t1 hx.2]
  rfl
end Go.Proofs.YtpcjbkgbnoocaaaGreat
set_option linter.unusedVariables false
set_option linter.unusedSimpArgs false
namespace Go.Proofs.YtpcjbkgbnoocaaaGreat
open Go Go.Wk Go.Proofs
theorem vK {c:Clause}(h:SmC c):Clause.bd c:=⟨trivial,⟨by have:=h.1;omega,λ_ _=>trivial⟩,⟨by have:=h.2;omega,λ_ _=>trivial⟩⟩
theorem wx {z:Int}(h0:0<=z) (h1:z<=2):∃c:Nat,cw z=some (c:Int)/\1<=c/\c<=4:=by
 rcases(by omega:z=0\/z=1\/z=2) with e | e | e <;> subst e
 · exact⟨1,by decide,by omega,by omega⟩
 · exact⟨2,by rw[bR (.inl rfl)];rfl,by omega,by omega⟩
 · exact⟨4,by rw[bR (.inr rfl)];rfl,by omega,by omega⟩
theorem wN (a:Int) (h0:0<=a):∃z,ki a 2=some z/\0<=z/\z<=2:=by
 unfold ki
 by_cases h:a<2
 · rw[decide_eq_true h,cond_true];exact⟨a,rfl,h0,by omega⟩
 · rw[decide_eq_false h,cond_false];exact⟨2,rfl,by omega,by omega⟩
def rQ:(Rival×Int×Int)⊕(Int×Int)->Prop
 | .inl r=>r.1.In.length<=300/\Cur r.2.1
 | .inr s=>Cur s.1
section
variable {b:List Int}(hl:b.length<=4096)
include hl
theorem ye {i h:Int}(hi:Cur i){p:Sig}(hp:0<=p.Out):∃r,kM ⟨b,i,h⟩ p=some r/\(r.1.In.length<=300/\Cur r.2.1):=by
 obtain⟨z,z1,z2,z3⟩:=wN p.Out hp
 obtain⟨c,c1,c2,c3⟩:=wx z2 z3
 unfold kM
 refine bqQ (lJ hl hi 2) λx13 d1=>bqQ (P:=rQ) (biQ (λ_=>bqQ (qQ hl d1 p (by omega) (by omega)) λx18 ⟨hcs,d2⟩=>?_) λ_=>⟨_,rfl,d1⟩) λq1 hq1=>?_
 · rcases pQ p (cs:=x18.1) (λc hc=>vK (hcs c hc)) with ⟨e,_⟩ | ⟨N,m,k,F,In,Nx,Q,hC,hN,_,_,_,e,_⟩
   · rw[e];exact⟨_,rfl,d2⟩
   · rw[e]
     have h1:=hC.inl
     have h2:=hC.nm.len
     exact⟨_,rfl,by dsimp only;omega,d2⟩
 · match q1,hq1 with
   | .inl r,hq=>exact⟨r,rfl,hq⟩
   | .inr s,d3=>
    show ∃r,bu _ _=some r/\_
    refine bqQ (dT hl d3 4) λx26 ⟨a0,a1,d4⟩=>?_
    have a1:=a1 (by omega)
    obtain⟨y,hy⟩:=dt a0
    have hr:rng (1+x26.1)=some ():=by unfold rng;rw[if_pos (by omega)]
    rw[wr' (z:=1+x26.1) (by omega) (by omega),hr,bz,show yn (1+x26.1-0)=y+1 by omega]
    obtain⟨s,k1,k2,k3,k4,k5⟩:=bL (f:=ik ⟨b,i,h⟩ p x26) (λj (s:Int×Int×List Int×List (List Int))=>Cur s.1/\s.2.2.1.length=j/\s.2.2.2.length=j/\∀row∈s.2.2.2,1<=row.length/\row.length<=10) (y+1) (s:=(x26.2.1,x26.2.2,[],[])) ⟨d4,rfl,rfl,λrow hr=>by cases hr⟩ (λj s hj ⟨b1,b2,b3,b4⟩=>by
     obtain⟨o,w1,w2⟩:=bY (f:=g7 ⟨b,i,h⟩ p x26) (λq (t:List Int×Int×Int×Int)=>t.1.length=q/\t.2.1=(q:Int)/\q<=c/\Cur t.2.2.1) (λ_=>False) (λt=>t.1.length=c/\Cur t.2.2.1) c (λq t ⟨g1,g2,g3,g4⟩=>by
      unfold g7
      rw[z1,bz,c1,bz]
      by_cases hlt:q<c
      · obtain⟨x,e,_,_,d⟩:=dT hl (h:=t.2.2.2) g4 (IntKind.i64.wrap (1+x26.1))
        rw[decide_eq_true (show t.2.1<(c:Int) by omega),cond_true,e,bz,app1 (by omega) rfl,bz,wr' (by omega) (by omega)]
        exact⟨_,rfl,hlt,by dsimp only;rw[yq,g1];rfl,by dsimp only;omega,by omega,d⟩
      · rw[decide_eq_false (show ¬t.2.1<(c:Int) by omega),cond_false]
        exact⟨_,rfl,by dsimp only;omega,g4⟩) (2 ^ 64) 0 ([],0,s.1,s.2.1) (by omega) ⟨rfl,rfl,Nat.zero_le _,b1⟩ (by omega)
     match o,w2 with
     | .inr t,⟨t1,t2⟩=>
      unfold ik
      rw[w1,bz,bE]
      obtain⟨x,e,_,_,d⟩:=dT hl (h:=t.2.2.2) t2 2
      rw[e,bz,app1 (by omega) rfl,bz,app1 (by omega) rfl]
      refine⟨_,rfl,d,by dsimp only;rw[yq,b2];rfl,by dsimp only;rw[yq,b3];rfl,λrow hr=>?_⟩
      rcases yz.1 hr with hr | hr
      · exact b4 row hr
      · rw[yr.1 hr];exact⟨by omega,by omega⟩)
    rw[k1,bz,bE]
    have hIn:∀v:Int,∃w,idx s.2.2.1 0=some w/\setI s.2.2.1 0 v=some (s.2.2.1.set 0 v):=λv=>by
     obtain⟨w,hw,_⟩:=cJ (xs:=s.2.2.1) (z:=0) (by omega) (by omega)
     exact⟨w,hw,gV (i:=0) (by omega)⟩
    obtain⟨row,hrow,hrm⟩:=cJ (xs:=s.2.2.2) (z:=0) (by omega) (by omega)
    obtain⟨q1,q2⟩:=k5 row hrm
    have hNx:∀v:List Int,setI s.2.2.2 0 v=some (s.2.2.2.set 0 v):=λv=>gV (i:=0) (by omega)
    refine bqQ (lJ hl k2 12) λx62 d5=>bqQ (P:=λq=>Cur q.1/\q.2.2.1.length<=300) (biQ (λ_=>bqQ (dT hl d5 3) λx64 ⟨_,_,d6⟩=>bqQ (P:=λq=>Cur q.1/\q.2.2.1.length<=300) (biQ (λ_=>bqQ (oA hl d6 (by omega) (by omega) (by omega)) λx70 ⟨_,_,d7⟩=>?_) λ_=>bqQ (P:=λq=>Cur q.1) (biQ (λ_=>?_) λ_=>bqQ (P:=λq=>Cur q.1) (biQ (λ_=>?_) λ_=>⟨_,rfl,d6⟩) λq d=>⟨_,rfl,d⟩) λq d=>⟨_,rfl,d,by dsimp only;omega⟩) λq ⟨d,l⟩=>⟨_,rfl,d,l⟩) λ_=>⟨_,rfl,d5,by dsimp only;omega⟩) λq ⟨d,l⟩=>⟨_,rfl,l,d⟩
    · obtain⟨w,w1,w2⟩:=hIn x70.1
      rw[w1,bz,w2]
      exact⟨_,rfl,d7,by dsimp only;rw[yB];omega⟩
    · rw[hrow,bz,app1 (by omega) rfl,bz,bz,hNx]
      exact⟨_,rfl,d6⟩
    · rw[hrow,bz]
      refine bqQ (oA hl d6 (by omega) (by omega) (by omega)) λx90 ⟨_,_,d7⟩=>?_
      obtain⟨w,w1,_⟩:=cJ (xs:=row) (z:=0) (by omega) (by omega)
      have w2:setI row 0 x90.1=some (row.set 0 x90.1):=gV (i:=0) (by omega)
      rw[w1,bz,w2,bz,hNx]
      exact⟨_,rfl,d7⟩
end
theorem likeR (x:List Int):iI x x=some true:=by
 unfold iI
 rw[bne_self_eq_false,cond_false,c8 (f:=fK x x) (r:=false) (λ_=>true) (xs:=x) rfl (λi y hy=>by
  unfold fK
  rw[bC,hy,bz,bz,bne_self_eq_false];rfl)]
 simp
 rfl
end Go.Proofs.YtpcjbkgbnoocaaaGreat
set_option linter.unusedVariables false
set_option linter.unusedSimpArgs false
namespace Go.Proofs.YtpcjbkgbnoocaaaGreat
open Go Go.Wk Go.Proofs
def RowsQ (t:List (List Int)):Prop:=∀row∈t,1<=row.length/\row.length<=4
theorem RowsQ.app {t:List (List Int)}{x:List Int}(h:RowsQ t) (h1:1<=x.length) (h2:x.length<=4):RowsQ (t++[x]):=λrow hr=>by
 rcases yz.1 hr with hr | hr
 · exact h row hr
 · rw[yr.1 hr];exact⟨h1,h2⟩
theorem nU {x:List Int}(h:x.length<=1000):cA x=some x:=by
 unfold cA
 rw[appL (by rw[yw];omega) rfl]
 rfl
section
variable {b:List Int}(hl:b.length<=4096)
include hl
theorem vE {i h:Int}(hi:Cur i){p:Sig}(hs:sigOk p=true):∃r,jx ⟨b,i,h⟩ p=some r/\((1<=r.1.Next.length/\r.1.Next.length<=5/\r.1.Out.length=r.1.Next.length/\RowsQ r.1.Next/\RowsQ r.1.Out)/\Cur r.2.1):=by
 obtain⟨h1,h2⟩:=cm hs
 have pI:=dK p.In
 have e1:gZ p=some (pw p.In):=by unfold gZ;rw[bR h1];rfl
 obtain⟨c,hc⟩:=dt (z:=pw p.In) (by omega)
 unfold jx
 refine bqQ (dT hl hi 5) λx12 ⟨a0,a1,d1⟩=>?_
 have a1:=a1 (by omega)
 obtain⟨y,hy⟩:=dt a0
 have hr:rng (1+x12.1)=some ():=by unfold rng;rw[if_pos (by omega)]
 rw[wr' (z:=1+x12.1) (by omega) (by omega),hr,bz,show yn (1+x12.1-0)=y+1 by omega]
 obtain⟨s,k1,k2,k3,k4,k5,k6⟩:=bL (f:=gL ⟨b,i,h⟩ p x12) (λj (s:Int×Int×List (List Int)×List (List Int))=>Cur s.1/\s.2.2.1.length=j/\s.2.2.2.length=j/\RowsQ s.2.2.1/\RowsQ s.2.2.2) (y+1) (s:=(x12.2.1,x12.2.2,[],[])) ⟨d1,rfl,rfl,λrow hr=>by(cases hr),λrow hr=>by(cases hr)⟩ (λj s hj ⟨b1,b2,b3,b4,b5⟩=>by
  obtain⟨o,w1,w2⟩:=bY (f:=gK ⟨b,i,h⟩ p x12) (λq (t:List Int×List Int×Int×Int×Int)=>t.1.length=q/\t.2.1.length=q/\t.2.2.1=(q:Int)/\q<=c/\Cur t.2.2.2.1) (λ_=>False) (λt=>t.1.length=c/\t.2.1.length=c/\Cur t.2.2.2.1) c (λq t ⟨g1,g2,g3,g4,g5⟩=>by
   unfold gK
   rw[e1,bz]
   by_cases hlt:q<c
   · obtain⟨x,f1,_,_,f2⟩:=dT hl (h:=t.2.2.2.2) g5 (IntKind.i64.wrap (1+x12.1))
     obtain⟨x',f3,_,_,f4⟩:=dT hl (h:=x.2.2) f2 (pw p.Out)
     rw[decide_eq_true (show t.2.2.1<pw p.In by omega),cond_true,f1,bz,app1 (by omega) rfl,bz,bR h2,bz,f3,bz,app1 (by omega) rfl,bz,wr' (z:=t.2.2.1+1) (by omega) (by omega)]
     exact⟨_,rfl,hlt,by dsimp only;rw[yq,g1];rfl,by dsimp only;rw[yq,g2];rfl,by dsimp only;omega,by omega,f4⟩
   · rw[decide_eq_false (show ¬t.2.2.1<pw p.In by omega),cond_false]
     exact⟨_,rfl,by dsimp only;omega,by dsimp only;omega,g5⟩) (2 ^ 64) 0 ([],[],0,s.1,s.2.1) (by omega) ⟨rfl,rfl,rfl,Nat.zero_le _,b1⟩ (by omega)
  match o,w2 with
  | .inr t,⟨t1,t2,t3⟩=>
   unfold gL
   rw[w1,bz,bE,app1 (by omega) rfl,bz,app1 (by omega) rfl]
   exact⟨_,rfl,t3,by dsimp only;rw[yq,b2];rfl,by dsimp only;rw[yq,b3];rfl,b4.app (by omega) (by omega),b5.app (by omega) (by omega)⟩)
 rw[k1,bz,bE]
 refine bqQ (P:=λq=>Cur q.2.1) (biQ (λ_=>bqQ (lJ hl k2 2) λx58 d=>⟨_,rfl,d⟩) λ_=>⟨_,rfl,k2⟩) λq7 d7=>?_
 refine bqQ (P:=λ(q:List (List Int)×List (List Int))=>1<=q.1.length/\q.1.length<=5/\q.2.length=q.1.length/\RowsQ q.1/\RowsQ q.2) (biQ (λ_=>?_) λ_=>⟨_,rfl,by dsimp only;omega,by dsimp only;omega,by dsimp only;omega,k5,k6⟩) λq8 d8=>⟨_,rfl,d8,d7⟩
 have hw:IntKind.i64.wrap (1+x12.1-1)=(y:Int):=by rw[wr' (by omega) (by omega)];omega
 obtain⟨r1,u1,u2⟩:=cJ (xs:=s.2.2.1) (z:=0) (by omega) (by omega)
 obtain⟨r2,u3,_⟩:=cJ (xs:=s.2.2.1) (z:=(y:Int)) (by omega) (by omega)
 obtain⟨r3,v1,v2⟩:=cJ (xs:=s.2.2.2) (z:=0) (by omega) (by omega)
 obtain⟨r4,v3,_⟩:=cJ (xs:=s.2.2.2) (z:=(y:Int)) (by omega) (by omega)
 rw[hw,u1,bz,nU (by have:=k5 r1 u2;omega),bz,u3,bz,gV (by omega),bz,v1,bz,nU (by have:=k6 r3 v2;omega),bz,v3,bz,gV (by omega)]
 refine⟨_,rfl,by dsimp only;rw[yB];omega,by dsimp only;rw[yB];omega,by dsimp only;rw[yB,yB];omega,λrow hr=>?_,λrow hr=>?_⟩
 · rcases List.mem_or_eq_of_mem_set hr with hr | hr
   · exact k5 row hr
   · rw[hr];exact k5 r1 u2
 · rcases List.mem_or_eq_of_mem_set hr with hr | hr
   · exact k6 row hr
   · rw[hr];exact k6 r3 v2
theorem uP {i h:Int}(hi:Cur i){p:Sig}(hs:sigOk p=true):∃r,ig ⟨b,i,h⟩ p=some r/\Cur r.2.1:=by
 unfold ig
 refine bqQ (vE hl hi hs) λx9 ⟨⟨n1,n2,n3,n4,n5⟩,d1⟩=>?_
 refine bqQ (dT hl d1 _) λx14 ⟨a0,a1,d2⟩=>?_
 have a1:=a1 (by omega)
 refine bqQ (dT hl d2 16) λx16 ⟨_,_,d3⟩=>?_
 obtain⟨r1,u1,u2⟩:=cJ (xs:=x9.1.Next) (z:=x14.1) a0 (by omega)
 obtain⟨r2,v1,v2⟩:=cJ (xs:=x9.1.Out) (z:=x14.1) a0 (by omega)
 obtain⟨g1,g2⟩:=n4 r1 u2
 obtain⟨g3,g4⟩:=n5 r2 v2
 obtain⟨k,hk⟩:=dt a0
 have sN:∀v:List Int,setI x9.1.Next x14.1 v=some (x9.1.Next.set k v):=λv=>by rw[hk];exact gV (by omega)
 have sO:∀v:List Int,setI x9.1.Out x14.1 v=some (x9.1.Out.set k v):=λv=>by rw[hk];exact gV (by omega)
 have s0:∀(row:List Int) (v:Int),1<=row.length->(∃w,idx row 0=some w)/\setI row 0 v=some (row.set 0 v):=λrow v hrow=>by
  obtain⟨w,hw,_⟩:=cJ (xs:=row) (z:=0) (by omega) (by omega)
  exact⟨⟨w,hw⟩,gV (i:=0) (by omega)⟩
 refine bqQ (P:=λq=>Cur q.1) (biQ (λ_=>?_) λ_=>bqQ (P:=λq=>Cur q.1) (biQ (λ_=>?_) λ_=>bqQ (P:=λq=>Cur q.1) (biQ (λ_=>?_) λ_=>bqQ (P:=λq=>Cur q.1) (biQ (λ_=>?_) λ_=>bqQ (P:=λq=>Cur q.1) (biQ (λ_=>?_) λ_=>⟨_,rfl,d3⟩) λq d=>⟨_,rfl,d⟩) λq d=>⟨_,rfl,d⟩) λq d=>⟨_,rfl,d⟩) λq d=>⟨_,rfl,d⟩) λq d=>⟨_,rfl,d⟩
 · rw[u1,bz]
   refine bqQ (oA hl d3 (by omega) (by omega) (by omega)) λx25 ⟨_,_,d4⟩=>?_
   obtain⟨⟨w,w1⟩,w2⟩:=s0 r1 x25.1 g1
   rw[w1,bz,w2,bz,sN]
   exact⟨_,rfl,d4⟩
 · rw[v1,bz]
   refine bqQ (oA hl d3 (by omega) (by omega) (by omega)) λx35 ⟨_,_,d4⟩=>?_
   obtain⟨⟨w,w1⟩,w2⟩:=s0 r2 x35.1 g3
   rw[w1,bz,w2,bz,sO]
   exact⟨_,rfl,d4⟩
 · have e:∃z,subS x9.1.Out 1 (x9.1.Out.length:Int)=some z:=by
    unfold subS
    rw[if_pos ⟨by omega,by omega,by omega⟩]
    exact⟨_,rfl⟩
   obtain⟨z,e⟩:=e
   rw[e]
   exact⟨_,rfl,d3⟩
 · rw[u1,bz,app1 (by omega) rfl,bz,bz,sN]
   exact⟨_,rfl,d3⟩
 · obtain⟨o,w1,w2⟩:=bY (f:=eI ⟨b,i,h⟩) (λj (s:Int×Int×List (List Int)×List (List Int))=>Cur s.1/\s.2.2.1.length=x9.1.Next.length+j/\s.2.2.2.length=x9.1.Next.length+j/\RowsQ s.2.2.1/\RowsQ s.2.2.2) (λ_=>False) (λs=>Cur s.1) 60 (λj s ⟨b1,b2,b3,b4,b5⟩=>by
    unfold eI
    obtain⟨x,f1,f2,f3,f4⟩:=dT hl (h:=s.2.1) b1 2
    have f3:=f3 (by omega)
    rw[f1,bz,wr' (z:=48+x.1) (by omega) (by omega)]
    by_cases hlt:(s.2.2.1.length:Int)<48+x.1
    · obtain⟨r1,u1,u2⟩:=cJ (xs:=s.2.2.1) (z:=0) (by omega) (by omega)
      obtain⟨r2,v1,v2⟩:=cJ (xs:=s.2.2.2) (z:=0) (by omega) (by omega)
      obtain⟨g1,g2⟩:=b4 r1 u2
      obtain⟨g3,g4⟩:=b5 r2 v2
      rw[decide_eq_true hlt,cond_true,u1,bz,nU (by omega),bz,app1 (by omega) rfl,bz,v1,bz,nU (by omega),bz,app1 (by omega) rfl]
      exact⟨_,rfl,by omega,f4,by dsimp only;rw[yq,b2];rfl,by dsimp only;rw[yq,b3];rfl,b4.app g1 g2,b5.app g3 g4⟩
    · rw[decide_eq_false hlt,cond_false]
      exact⟨_,rfl,f4⟩) (2 ^ 64) 0 (x16.2.1,x16.2.2,x9.1.Next,x9.1.Out) (by omega) ⟨d3,rfl,n3,n4,n5⟩ (by omega)
   rw[w1,bz]
   match o,w2 with
   | .inr s,d=>exact⟨_,rfl,d⟩
theorem xi {i h:Int}(hi:Cur i):∃r,fY ⟨b,i,h⟩=some r/\True:=by
 unfold fY
 refine bqQ (wV hl hi) λx6 ⟨_,_,d1⟩=>?_
 rw[cZ,bz]
 cases hs:sigOk x6.1 with
 | false=>exact bqQ (vE hl d1 (p:=⟨1,1⟩) (by decide)) λx13 _=>⟨_,rfl,trivial⟩
 | true=>exact bqQ (uP hl d1 hs) λx17 _=>⟨_,rfl,trivial⟩
theorem tX:∃r,eN b=some r/\True:=by
 obtain⟨h,hn⟩:=wU (b:=b)
 unfold eN
 rw[hn,bz]
 exact bqQ (xi hl ⟨by omega,by omega⟩) λx8 _=>⟨_,rfl,trivial⟩
end
end Go.Proofs.YtpcjbkgbnoocaaaGreat
set_option linter.unusedVariables false
set_option linter.unusedSimpArgs false
namespace Go.Proofs.YtpcjbkgbnoocaaaGreat
open Go Go.Wk Go.Proofs
theorem tH {b:List Int}(hl:b.length<=4096):∃r,g9 b=some r/\r.2.2.In.length<=300:=by
 obtain⟨h,hn⟩:=wU (b:=b)
 unfold g9
 rw[hn,bz]
 refine bqQ (wV hl ⟨by omega,by omega⟩) λx12 ⟨a0,_,c1⟩=>bqQ (tX hl) λx15 _=>bqQ (lJ hl c1 3) λx19 c2=>bqQ (P:=λq=>Cur q.2.2.1) (biQ (λ_=>bqQ (qQ hl c2 x12.1 (by omega) (by omega)) λx24 ⟨hcs,c3⟩=>?_) λ_=>⟨_,rfl,c2⟩) λq1 c3=>bqQ (ye hl c3 a0) λx32 ⟨l,_⟩=>⟨_,rfl,l⟩
 rcases qn x12.1 (cs:=x24.1) (λc hc=>vK (hcs c hc)) with ⟨e,_⟩ | ⟨N,m,k,F,Nx,Ou,Q,_,_,_,_,_,e,_⟩
 · rw[e];exact⟨_,rfl,c3⟩
 · rw[e];exact⟨_,rfl,c3⟩
theorem xB {p:Sig}(hs:sigOk p=true){u o:Int}(o0:0<=o) (o1:o<pw p.Out) (u0:0<=u) (u1:u<pw p.In):lC p (o * pw p.In+u)=some o:=by
 have pI:=dK p.In
 have pO:=dK p.Out
 obtain⟨h1,h2⟩:=cm hs
 have hmul:0<=o * pw p.In:=Int.mul_nonneg o0 (by omega)
 have hmul2:(o+1) * pw p.In<=pw p.Out * pw p.In:=Int.mul_le_mul_of_nonneg_right (by omega) (by omega)
 rw[Int.add_mul,Int.one_mul]at hmul2
 have hlt:=lM hs
 have hle:ltr p=pw p.Out * pw p.In:=Int.mul_comm ..
 have hnz:nz (pw p.In)=some ():=by unfold nz;rw[if_neg (by omega)]
 have hdiv:Int.tdiv (o * pw p.In+u) (pw p.In)=o:=by
  rw[Int.tdiv_eq_ediv_of_nonneg (by omega),Int.add_comm,Int.add_mul_ediv_right _ _ (by omega),Int.ediv_eq_zero_of_lt u0 u1];omega
 unfold lC
 rw[ej hs,bz,cz,wr' (z:=ltr p-1) (by omega) (by omega),pt,cE.2 ⟨by omega,by omega⟩,bz,yp,cond_false,bR h1,bz,hnz,bz,hdiv,wr' (by omega) (by omega)]
theorem om {p:Sig}{r:Rival}(hs:sigOk p=true) (hr:rivalOk p r=true):∀{xs:List Int}{q:Int}{j:Nat}{x:Int},0<=q->q<r.In.length->xs.all (inR (pw p.Out))=true->(lettersR p r q xs)[j]? =some x->lC p x=some (xs.getD j 0)
 | [],_,_,_,_,_,_,h=>by simp[lettersR]at h
 | o::os,q,j,x,q0,q1,hx,h=>by
  rw[List.all_cons,yo]at hx
  obtain⟨i0,i1⟩:=cE.1 hx.1
  obtain⟨_,_,_,t0,t1⟩:=nX hr q0 q1 i0 i1
  obtain⟨_,u0,u1⟩:=kW hr q0 q1
  cases j with
  | zero=>
   simp only[lettersR,List.getElem?_cons_zero,Option.some.injEq]at h
   rw[← h]
   exact xB hs i0 i1 u0 u1
  | succ j=>
   simp only[lettersR,List.getElem?_cons_succ]at h
   have:=om hs hr t0 t1 hx.2 h
   rw[this]
   rfl
theorem tc (xs:List Int){j:Nat}(h:j<xs.length):xs.take j++[xs.getD j 0]=xs.take (j+1):=by
 rw[List.getD_eq_getElem?_getD,bB h,Option.getD_some,List.take_succ_eq_append_getElem h]
theorem FnDuels_law {p0:List Int}(ok0:okS U8 p0):mK p0=some true:=by
 unfold mK ut
 rw[bz]
 by_cases hl:p0.length<=4096
 · rw[decide_eq_false (by omega),cond_false]
   obtain⟨⟨p,m,r⟩,hr,hIn⟩:=tH hl
   dsimp only at hIn
   rw[hr,bz]
   dsimp only
   obtain⟨w,is,e1,e2,l1,l2,hw⟩:=sx p m r (by omega)
   rw[e1,e2]
   simp only[bz,bne_self_eq_false,cond_false,likeR,yp]
   cases is with
   | false=>rfl
   | true=>
    obtain⟨hs,hr,xs,ys,x1,y1,y0,w1,w2,hq⟩:=hw rfl
    obtain⟨n1,n2,_⟩:=ez hr
    have q0:=nH hr (q:=0) (by omega) (by omega) x1
    have lx:=eG p r xs 0
    have ly:=eG p r ys (behindR r 0 xs)
    rw[← w1]at lx
    rw[← w2]at ly
    obtain⟨s3,k1,k2⟩:=bL (f:=gP (p,m,r) (w,true)) (λj s=>s=xs.take j) w.Stem.length (s:=[]) rfl (λj s hj h=>by
     have hx:w.Stem[j]? =some w.Stem[j]:=bB hj
     have hx2:(lettersR p r 0 xs)[j]? =some w.Stem[j]:=by rw[← w1];exact hx
     unfold gP
     dsimp only
     rw[bC,hx,bz,om hs hr (by omega) (by omega) x1 hx2,bz,app1 (by rw[h,yv];omega) rfl]
     exact⟨_,rfl,by rw[h];exact tc xs (by omega)⟩)
    obtain⟨s6,k3,k4⟩:=bL (f:=gE (p,m,r) (w,true)) (λj s=>s=ys.take j) w.Loop.length (s:=[]) rfl (λj s hj h=>by
     have hx:w.Loop[j]? =some w.Loop[j]:=bB hj
     have hx2:(lettersR p r (behindR r 0 xs) ys)[j]? =some w.Loop[j]:=by rw[← w2];exact hx
     unfold gE
     dsimp only
     rw[bC,hx,bz,om hs hr q0.1 q0.2 y1 hx2,bz,app1 (by rw[h,yv];omega) rfl]
     exact⟨_,rfl,by rw[h];exact tc ys (by omega)⟩)
    rw[List.take_of_length_le (by omega)]at k2 k4
    rw[k2]at k1
    rw[k4]at k3
    have hok:wordOk w 16=true:=by
     have z1:=ms hs hr (q:=0) (by omega) (by omega) x1
     have z2:=ms hs hr q0.1 q0.2 y1
     rw[← w1]at z1
     rw[← w2]at z2
     have pI:=dK p.In
     have pO:=dK p.Out
     have hm:pw p.In * pw p.Out<=4 * 4:=Int.mul_le_mul (by omega) (by omega) (by omega) (by omega)
     have mono:∀zs:List Int,zs.all (inR (pw p.In * pw p.Out))=true->zs.all (inR 16)=true:=λzs h=>by
      rw[List.all_eq_true]at h ⊢
      intro z hz
      have:=cE.1 (h z hz)
      exact cE.2 ⟨this.1,by omega⟩
     have y2:0<ys.length:=List.length_pos_iff.2 y0
     unfold wordOk
     rw[mono _ z1,mono _ z2,decide_eq_true (by omega),decide_eq_true (by omega),decide_eq_true (by omega)]
     rfl
    have hwe:(⟨lettersR p r 0 xs,lettersR p r (behindR r 0 xs) ys⟩:Word)=w:=by rw[← w1,← w2]
    have hI:=vl (p:=p) (r:=r) (outs:=ys) ⟨hs,hr,by omega,λo ho=>cE.1 (List.all_eq_true.1 y1 o ho)⟩
    have hI2:=qm r ys ys.length
    rw[k1,bz,bE,k3,bz,bE,xe hs hr x1 y1 (by omega) (by omega) y0 hq,bz]
    dsimp only
    rw[hwe,cond_true,uO hok,bz,bz,cond_true,hI,bz,hI2,wr' (by omega) (by omega),bz]
    rw[show(((ys.length+1:Nat):Int)==(ys.length:Int)+1)=true from by rw[beq_iff_eq];omega]
    rfl
 · rw[decide_eq_true (by omega),cond_true]
end Go.Proofs.YtpcjbkgbnoocaaaGreat
