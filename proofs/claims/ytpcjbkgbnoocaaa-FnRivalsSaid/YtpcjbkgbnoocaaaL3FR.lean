/- ContestOf: both sides compute the same. -/
import Derived.Test.YtpcjbkgbnoocaaaL2FR
import Derived.Test.YtpcjbkgbnoocaaaL0FR
import Derived.Test.YtpcjbkgbnoocaaaL1FR
set_option linter.unusedVariables false
set_option linter.unusedSimpArgs false
open Option renaming bind → br, bind_some → bt
open List renaming getElem?_eq_getElem → bB, getElem?_eq_some_iff → gs, replicate → hV, mem_of_getElem? → it, length_append → vx, mem_singleton → vy, length_take → vB, length_nil → vC, mem_append → vF
open Int renaming toNat → vu
open Bool renaming and_eq_true → vv, not_true → vw
namespace Go.Proofs.Ytpcjbkgbnoocaaa
open Go Go.Wk Go.Proofs
theorem qp {p:Sig}(hs:sigOk p=true):dc p=some (pw p.In):=by
 unfold dc
 rw[ck (cM hs).1];rfl
section
variable {p:Sig}{d:Det}(hs:sigOk p=true){n m k:Nat}(hn:n<=48) (hn1:1<=n) (hm:pw p.In=(m:Int)) (hk:pw p.Out=(k:Int)) (hd:d.Next.length=n) (hD:∀row∈d.Next,RowIn (n:Int) ((m * k:Nat):Int) row)
include hs hn hm hk hd hD
omit hn in
theorem tC {q i:Nat}(hq:q<n) (hi:i<m):∃r,iZ p d q i=some r/\SuccR d m k q i r:=by
 have m1:=jp p.In
 have k1:=jp p.Out
 unfold iZ
 obtain⟨o,w1,w2⟩:=cm (f:=eQ p d q i) (λj (s:List Int×Int)=>s.2=(j:Int)/\j<=k/\Asc s.1/\s.1.length<=j/\∀z,z∈s.1↔∃o:Nat,o<j/\z=tab d.Next q ((o * m+i:Nat):Int)) (λ_=>False) (λs=>SuccR d m k q i s.1) k (λj s ⟨e1,hj,a1,a2,a3⟩=>by
  obtain⟨xs,o⟩:=s
  dsimp only at e1 a1 a2 a3
  subst e1
  unfold eQ
  rw[ck (cM hs).2,bt,hk]
  dsimp only
  by_cases hlt:j<k
  · obtain⟨row,r1,r2,_⟩:=mA (d:=d) (k:=k) (by omega) (by omega) hd hD hq hi hlt
    obtain⟨R,t1,t2,t3⟩:=tn a1 (tab d.Next q ((j * m+i:Nat):Int)) (by omega)
    have hlet:=kN hs (x:=(i:Int)) (o:=(j:Int)) (by omega) (by omega) (by omega) (by omega)
    have e:(j:Int) * (m:Int)+(i:Int)=((j * m+i:Nat):Int):=by simp
    rw[hm,e]at hlet
    rw[decide_eq_true (show(j:Int)<(k:Int) by omega),cond_true,r1,bt,hlet,bt,r2,bt,t1,bt,wr' (by omega) (by omega)]
    have hRl:R.length<=xs.length+1:=lV (ys:=tab d.Next q ((j * m+i:Nat):Int)::xs) (gw t2) λz hz=>by
     rcases(t3 z).1 hz with h | h
     · rw[h];exact List.mem_cons_self ..
     · exact List.mem_cons_of_mem _ h
    refine⟨_,rfl,by omega,by dsimp only;omega,by omega,t2,by dsimp only;omega,λz=>?_⟩
    dsimp only
    rw[t3,a3]
    constructor
    · rintro(h | ⟨o,o1,o2⟩)
      · exact⟨j,by omega,h⟩
      · exact⟨o,by omega,o2⟩
    · rintro⟨o,o1,o2⟩
      by_cases e:o=j
      · subst e;exact .inl o2
      · exact .inr ⟨o,by omega,o2⟩
  · have:j=k:=by omega
    subst this
    rw[decide_eq_false (show ¬((j:Nat):Int)<(j:Int) by omega),cond_false]
    exact⟨_,rfl,a1,a3⟩) (2 ^ 64) 0 ([],0) (by omega) ⟨rfl,Nat.zero_le _,List.Pairwise.nil,Nat.le_refl _,λz=>by simp⟩ (by omega)
 match o,w2 with
 | .inr s,h=>rw[w1];exact⟨s.1,rfl,h⟩
omit hn hs in
theorem tG {q i:Nat}(hq:q<n) (hi:i<m):∃xs r,cntM (fN d (m:Int) q i) k 0 []=some (.inr xs)/\0<xs.length/\xs.length<=4/\cA xs=some (xs.mergeSort λx y=>decide (x<=y))/\d8 (xs.mergeSort λx y=>decide (x<=y))=some r/\SuccR d m k q i r:=by
 have m1:=jp p.In
 have k1:=jp p.Out
 obtain⟨xs,h1,h2,h3⟩:=bO (f:=fN d (m:Int) q i) (λj (s:List Int)=>s.length=j/\∀z,z∈s↔∃o:Nat,o<j/\z=tab d.Next q ((o * m+i:Nat):Int)) k (s:=[]) ⟨rfl,λz=>by simp⟩ (λj s hj ⟨a1,a2⟩=>by
  obtain⟨row,r1,r2,_⟩:=mA (d:=d) (k:=k) (by omega) (by omega) hd hD hq hi hj
  have hb:j * m<=4 * 4:=Nat.mul_le_mul (by omega) (by omega)
  have e:(j:Int) * (m:Int)=((j * m:Nat):Int):=by simp
  unfold fN
  rw[r1,bt,e,wr' (z:=((j * m:Nat):Int)) (by omega) (by omega),wr' (by omega) (by omega),show((j * m:Nat):Int)+(i:Int)=((j * m+i:Nat):Int) by omega,r2,bt,app1 (by omega) rfl]
  refine⟨_,rfl,by rw[vx,a1];rfl,λz=>?_⟩
  rw[vF,vy,a2]
  constructor
  · rintro(⟨o,o1,o2⟩ | h)
    · exact⟨o,by omega,o2⟩
    · exact⟨j,by omega,h⟩
  · rintro⟨o,o1,o2⟩
    by_cases e:o=j
    · subst e;exact .inr o2
    · exact .inl ⟨o,by omega,o2⟩)
 have hpw:(xs.mergeSort λx y=>decide (x<=y)).Pairwise (·<=·):=by
  have h:=List.pairwise_mergeSort (le:=λx y:Int=>decide (x<=y)) (λa b c h1 h2=>by simp only[decide_eq_true_eq]at *;omega) (λa b=>by simp only[Bool.or_eq_true,decide_eq_true_eq];omega) xs
  exact h.imp λh=>by simpa using h
 have hml:(xs.mergeSort λx y=>decide (x<=y)).length=xs.length:=List.length_mergeSort ..
 obtain⟨c1,c2⟩:=p5 hpw
 refine⟨xs,_,h1,by omega,by omega,?_,?_,c1,λz=>?_⟩
 · unfold cA
   rw[if_pos ⟨by omega,by omega⟩]
 · unfold d8
   rw[if_pos ⟨by omega,by omega⟩]
 · rw[c2,List.mem_mergeSort,h3]
omit hs hk hD in
theorem sk:cntM (dD d (m:Int)) n 0 ([],[])=some (.inr (hV n 1,(List.range n).map (rowQ n m)))/\cntM (fX d (m:Int)) n 0 ([],[])=some (.inr (hV n 1,(List.range n).map (rowQ n m))):=by
 have m1:=jp p.In
 have hr:rng (m:Int)=some ():=by unfold rng;rw[if_pos (by omega)]
 have hin:∀q:Nat,q<n->cntM (dK d (m:Int) q) m 0 []=some (.inr (rowQ n m q))/\cntM (fZ d (m:Int) q) m 0 []=some (.inr (rowQ n m q)):=λq hq=>by
  have hb:q * m<=48 * 4:=Nat.mul_le_mul (by omega) (by omega)
  have e:(q:Int) * (m:Int)=((q * m:Nat):Int):=by simp
  have hv:∀j:Nat,j<m->IntKind.i64.wrap (IntKind.i64.wrap ((d.Next.length:Int)+IntKind.i64.wrap ((q:Int) * (m:Int)))+(j:Int))=((n+q * m+j:Nat):Int):=λj hj=>by
   rw[e,wr' (z:=((q * m:Nat):Int)) (by omega) (by omega),wr' (z:=(d.Next.length:Int)+((q * m:Nat):Int)) (by omega) (by omega),wr' (by omega) (by omega)]
   omega
  have hl:∀j:Nat,((List.range j).map λi=>((n+q * m+i:Nat):Int)).length=j:=λj=>by rw[List.length_map,List.length_range]
  constructor
  · obtain⟨s,h1,h2⟩:=bO (f:=dK d (m:Int) q) (λj s=>s=(List.range j).map λi=>((n+q * m+i:Nat):Int)) m (s:=[]) rfl (λj s hj e=>by
     subst e
     unfold dK
     rw[hv j hj,app1 (by rw[hl];omega) rfl]
     exact⟨_,rfl,by rw[List.range_succ,List.map_append];rfl⟩)
    rw[h1,h2];rfl
  · obtain⟨s,h1,h2⟩:=bO (f:=fZ d (m:Int) q) (λj s=>s=(List.range j).map λi=>((n+q * m+i:Nat):Int)) m (s:=[]) rfl (λj s hj e=>by
     subst e
     unfold fZ
     rw[hv j hj,app1 (by rw[hl];omega) rfl]
     exact⟨_,rfl,by rw[List.range_succ,List.map_append];rfl⟩)
    rw[h1,h2];rfl
 have hm0:vu ((m:Int)-0)=m:=by omega
 constructor
 · obtain⟨s,h1,h2⟩:=bO (f:=dD d (m:Int)) (λj s=>s=(hV j 1,(List.range j).map (rowQ n m))) n (s:=([],[])) rfl (λj s hj e=>by
    subst e
    unfold dD
    dsimp only
    rw[hr,bt,hm0,(hin j hj).1,bt,bD,app1 (by simp;omega) rfl,bt,app1 (by simp;omega) rfl,bt]
    exact⟨_,rfl,by rw[List.replicate_succ',List.range_succ,List.map_append];rfl⟩)
   rw[h1,h2]
 · obtain⟨s,h1,h2⟩:=bO (f:=fX d (m:Int)) (λj s=>s=(hV j 1,(List.range j).map (rowQ n m))) n (s:=([],[])) rfl (λj s hj e=>by
    subst e
    unfold fX
    dsimp only
    rw[hr,bt,hm0,(hin j hj).2,bt,bD,app1 (by simp;omega) rfl,bt,app1 (by simp;omega) rfl,bt]
    exact⟨_,rfl,by rw[List.replicate_succ',List.range_succ,List.map_append];rfl⟩)
   rw[h1,h2]
def ConR (d:Det) (n m k c:Nat) (s:List Int×List (List Int)):Prop:=s.1=hV n 1++hV c 0/\∃R,s.2=(List.range n).map (rowQ n m)++R/\R.length=c/\∀q i:Nat,q<n->i<m->q * m+i<c->∃r,R[q * m+i]? =some r/\SuccR d m k q i r
theorem qU:∃s,cntM (dC p d (m:Int)) n 0 (hV n 1,(List.range n).map (rowQ n m))=some (.inr s)/\cntM (fV p d (m:Int)) n 0 (hV n 1,(List.range n).map (rowQ n m))=some (.inr s)/\ConR d n m k (n * m) s:=by
 have m1:=jp p.In
 have k1:=jp p.Out
 have hr:rng (m:Int)=some ():=by unfold rng;rw[if_pos (by omega)]
 have hrk:rng (k:Int)=some ():=by unfold rng;rw[if_pos (by omega)]
 have hm0:vu ((m:Int)-0)=m:=by omega
 have hk0:vu ((k:Int)-0)=k:=by omega
 obtain⟨sh1,sh2⟩:=fi (cM hs).2
 rw[hk]at sh2
 have hnm:n * m<=48 * 4:=Nat.mul_le_mul hn (by omega)
 obtain⟨s,t,h1,h2,h3,h4⟩:=pu (f:=dC p d (m:Int)) (g:=fV p d (m:Int)) (λq s t=>s=t/\ConR d n m k (q * m) s) n (s:=(hV n 1,(List.range n).map (rowQ n m))) (t:=(hV n 1,(List.range n).map (rowQ n m))) ⟨rfl,by rw[Nat.zero_mul];exact⟨by simp,[],by simp,rfl,λq i _ _ h=>absurd h (Nat.not_lt_zero _)⟩⟩ (λq s t hq ⟨e,hC⟩=>by
  subst e
  obtain⟨s',t',g1,g2,g3,g4⟩:=pu (f:=dE p d q) (g:=gb p d (m:Int) q) (λi s t=>s=t/\ConR d n m k (q * m+i) s) m (s:=s) (t:=s) ⟨rfl,hC⟩ (λi s t hi ⟨e,hC⟩=>by
   subst e
   obtain⟨c1,R,c2,c3,c4⟩:=hC
   obtain⟨r,r1,r2⟩:=tC hs hm hk hd hD hq hi
   obtain⟨xs,r',x1,x2,x3,x4,x5,x6⟩:=tG hm hk hd hD hq hi
   have:=r2.uniq x6
   subst this
   have hlt:=oK (n:=n) hq hi
   have l1:s.1.length=n+(q * m+i):=by rw[c1];simp
   have l2:s.2.length=n+(q * m+i):=by rw[c2];simp[c3]
   unfold dE gb
   rw[app1 (xs:=s.1) (by omega) rfl,r1,sh1,sh2,hrk,hk0,x1]
   simp only[bt,bD]
   rw[x4,app1 (xs:=s.2) (by omega) rfl]
   simp only[bt]
   rw[x5,bt,app1 (xs:=s.2) (by omega) rfl,bt]
   refine⟨_,_,rfl,rfl,rfl,?_,R++[r],?_,by rw[vx,c3];rfl,λq' i' hq' hi' hlt'=>?_⟩
   · dsimp only
     rw[c1,← Nat.add_assoc,List.replicate_succ',List.append_assoc]
   · dsimp only
     rw[c2,List.append_assoc]
   · by_cases e:q' * m+i'=q * m+i
     · obtain⟨e1,e2⟩:=uu hi' hi e
       subst e1 e2
       exact⟨r,by rw[← c3];simp,r2⟩
     · obtain⟨r0,a,b⟩:=c4 q' i' hq' hi' (by omega)
       exact⟨r0,by rw[List.getElem?_append_left (by omega)];exact a,b⟩)
  subst g3
  unfold dC fV
  rw[hr,bt,bt,hm0]
  have g1':cntM (dE p d q) m 0 (s.1,s.2)=some (.inr s'):=g1
  have g2':cntM (gb p d (m:Int) q) m 0 (s.1,s.2)=some (.inr s'):=g2
  rw[g1',g2',bt,bt,bD,bD]
  exact⟨_,_,rfl,rfl,rfl,by rw[Nat.add_mul,Nat.one_mul];exact g4⟩)
 subst h3
 exact⟨s,h1,h2,h4⟩
end
theorem copyPairs {ps:List Pair}(hl:ps.length<=4) (hb:∀x∈ps,x.Ask.length<=1000000000/\x.Give.length<=1000000000) (X:Det) (hX:X.Pairs=ps):cntM (dG X) ps.length 0 []=some (.inr ps)/\cntM (fh X) ps.length 0 []=some (.inr ps):=by
 constructor
 · obtain⟨s,h1,h2⟩:=bO (f:=dG X) (λj s=>s=ps.take j) ps.length (s:=[]) rfl (λj s hj e=>by
    subst e
    have hx:ps[j]? =some ps[j]:=bB hj
    generalize ps[j]=x at hx
    obtain⟨b1,b2⟩:=hb x (it hx)
    have cp:∀{xs:List Int},xs.length<=1000000000->de xs=some xs:=λ{xs} h=>by
     unfold de
     rw[appL (by rw[vC];omega) rfl];rfl
    unfold dG
    rw[hX,bC,hx,bt,bt,cp b1,bt,cp b2,bt,app1 (by rw[vB];omega) rfl]
    exact⟨_,rfl,by rw[List.take_add_one,hx];rfl⟩)
   rw[h1,h2,List.take_length]
 · obtain⟨s,h1,h2⟩:=bO (f:=fh X) (λj s=>s=ps.take j) ps.length (s:=[]) rfl (λj s hj e=>by
    subst e
    have hx:ps[j]? =some ps[j]:=bB hj
    generalize ps[j]=x at hx
    obtain⟨b1,b2⟩:=hb x (it hx)
    unfold fh nM
    rw[hX,bC,hx,bt,appL (by rw[vC];omega) rfl,bt,appL (by rw[vC];omega) rfl,bt,bt,app1 (by rw[vB];omega) rfl]
    exact⟨_,rfl,by rw[List.take_add_one,hx];rfl⟩)
   rw[h1,h2,List.take_length]
theorem pl {p:Sig}{d:Det}(hs:sigOk p=true) (hd:detOk p d=true):∃(n m k:Nat) (A:Arena),d.Next.length=n/\pw p.In=(m:Int)/\pw p.Out=(k:Int)/\1<=n/\n<=48/\1<=m/\m<=4/\1<=k/\k<=4/\(∀row∈d.Next,RowIn (n:Int) ((m * k:Nat):Int) row)/\(∀x∈d.Pairs,x.Ask.length<=1000000000/\x.Give.length<=1000000000)/\ConA d n m k A/\dg p d=some (A,d.Pairs,true)/\gT p d=some (A,d.Pairs):=by
 obtain⟨h1,h2,h3,h4⟩:=gL hd
 have m1:=jp p.In
 have k1:=jp p.Out
 obtain⟨m,hm⟩:=dr (z:=pw p.In) (by omega)
 obtain⟨k,hk⟩:=dr (z:=pw p.Out) (by omega)
 have hb:∀x∈d.Pairs,x.Ask.length<=1000000000/\x.Give.length<=1000000000:=λx hx=>by
  have hd':=hd
  unfold detOk at hd'
  simp only[vv]at hd'
  have hp:=hd'.1.2
  unfold pairsOk at hp
  rw[vv,List.all_eq_true]at hp
  have:=hp.2 x hx
  unfold pairOk at this
  rw[vv]at this
  have a1:=(St.of this.1).len
  have a2:=(St.of this.2).len
  omega
 have hD:∀row∈d.Next,RowIn (d.Next.length:Int) ((m * k:Nat):Int) row:=λrow hr=>by
  have:=h4 row hr
  unfold ltd at this
  rw[hm,hk]at this
  simpa using this
 obtain⟨f1,f2⟩:=sk h2 hm rfl
 obtain⟨s,s1,s2,c1,R,c2,c3,c4⟩:=qU hs h2 hm hk rfl hD
 obtain⟨p1,p2⟩:=copyPairs h3 hb d rfl
 refine⟨d.Next.length,m,k,⟨s.1,s.2⟩,rfl,hm,hk,h1,h2,by omega,by omega,by omega,by omega,hD,hb,⟨c1,?_,λq hq=>?_,λq i hq hi=>?_⟩,?_,?_⟩
 · show s.2.length=_
   rw[c2];simp[c3]
 · show s.2[q]? =_
   rw[c2,List.getElem?_append_left (by simpa using hq),List.getElem?_map,List.getElem?_range hq];rfl
 · obtain⟨r,r1,r2⟩:=c4 q i hq hi (oK hq hi)
   refine⟨r,?_,r2⟩
   show s.2[_]? =_
   rw[c2,List.getElem?_append_right (by simp),List.length_map,List.length_range,Nat.add_sub_cancel_left]
   exact r1
 · unfold dg
   rw[jk hs hb,hd,bt,vw,cond_false,qp hs,bt,hm,f1,bt,bD]
   dsimp only
   rw[s1,bt,bD,p1];rfl
 · unfold gT
   rw[ju hs,bt,hm,f2,bt,bD]
   dsimp only
   rw[s2,bt,bD,p2];rfl
end Go.Proofs.Ytpcjbkgbnoocaaa
set_option linter.unusedVariables false
set_option linter.unusedSimpArgs false
namespace Go.Proofs.Ytpcjbkgbnoocaaa
open Go Go.Wk Go.Proofs
def atP (P:List Place) (y:Int):Int:=match idx P y with | some v=>v.At | none=> -1
theorem jr {P:List Place}{y:Int}{v:Place}(h:idx P y=some v):atP P y=v.At:=by unfold atP;rw[h]
structure Cx (d:Det) (n m k:Nat) (A:Arena) (P:List Place) (g:Parity) (W:Int->Prop) (pk:List Int):Prop where
 n1:1<=n
 n48:n<=48
 m1:1<=m
 m4:m<=4
 k1:1<=k
 k4:k<=4
 dl:d.Next.length=n
 cell:∀row∈d.Next,RowIn (n:Int) ((m * k:Nat):Int) row
 con:ConA d n m k A
 rg:RecG A d.Pairs ⟨0,firstR d.Pairs.length⟩ P g
 ok:cn g=true
 sol:Solv g W pk
section
variable {d:Det}{n m k:Nat}{A:Arena}{P:List Place}{g:Parity}{W:Int->Prop}{pk:List Int}(h:Cx d n m k A P g W pk)
include h
theorem Cx.len:g.Prio.length=P.length/\g.Arena.Owner.length=P.length/\g.Arena.Next.length=P.length/\P.length<=256/\1<=P.length/\pk.length=P.length:=by
 have r:=h.rg.game
 have h1:=r.ol
 have h2:=r.nl
 have h3:=r.ql
 have h4:=h.sol.len
 have h5:=(gs.1 r.zero).1
 exact⟨h3,h1,h2,h.rg.le,by omega,by omega⟩
theorem Cx.place {x:Int}(hx:Xn P.length x):∃v,idx P x=some v/\0<=v.At/\v.At<((n+n * m:Nat):Int):=by
 obtain⟨v,hv,hm⟩:=dF (xs:=P) hx.1 hx.2
 have o:=h.rg.game.inn v hm
 have h2:=o.a1
 rw[h.con.ol,vx,List.length_replicate,List.length_replicate]at h2
 exact⟨v,hv,o.a0,h2⟩
theorem Cx.row {x:Int}{v:Place}(hv:idx P x=some v):∃r ar rc,idx g.Arena.Next x=some r/\idx A.Next v.At=some ar/\RowP P ar rc r/\idx g.Arena.Owner x=idx A.Owner v.At/\r.length<=16:=by
 obtain⟨x0,x1⟩:=(i8 hv)
 obtain⟨i,hi⟩:=dr x0
 subst hi
 rw[bC]at hv
 have hlt:=(gs.1 hv).1
 obtain⟨b1,_,r,ar,b3,b4,b5⟩:=h.rg.game.row i v hlt hv
 refine⟨r,ar,_,by rw[bC];exact b3,b4,b5,by rw[bC];exact b1,?_⟩
 have:=(dq h.ok).2.2.2.2 i r b3
 exact this.2.1
omit h in
theorem rK {x y:Int}{r:List Int}(hr:idx g.Arena.Next x=some r):(gI g).E x y↔y∈r:=by
 show y∈cK g.Arena x↔_
 rw[eO hr]
theorem Cx.state {x:Int}{v:Place}(hv:idx P x=some v) (hs:v.At<(n:Int)):(gI g).own x=true/\∃(q:Nat) (r:List Int),v.At=(q:Int)/\q<n/\idx g.Arena.Next x=some r/\(∀y∈r,Xn P.length y/\∃i:Nat,i<m/\atP P y=((n+(q * m+i):Nat):Int))/\∀i:Nat,i<m->∃y∈r,atP P y=((n+(q * m+i):Nat):Int):=by
 obtain⟨v',hv',a0,_⟩:=h.place (x:=x) ⟨(i8 hv).1,(i8 hv).2.1⟩
 rw[hv]at hv'
 cases hv'
 obtain⟨q,hq⟩:=dr a0
 have hqn:q<n:=by omega
 obtain⟨r,ar,rc,r1,r2,r3,r4,_⟩:=h.row hv
 have hAr:ar=rowQ n m q:=by
  rw[hq,bC,h.con.r1 q hqn]at r2
  exact(Option.some.inj r2).symm
 subst hAr
 have how:idx g.Arena.Owner x=some 1:=by
  rw[r4,hq,bC,h.con.ol,List.getElem?_append_left (by simpa using hqn),List.getElem?_replicate,if_pos hqn]
 refine⟨?_,q,r,hq,hqn,r1,λy hy=>?_,λi hi=>?_⟩
 · show ownL _ x=true
   unfold ownL
   rw[how];rfl
 · obtain⟨y0,u,hu,e⟩:=r3.to y hy
   have hlt:=(gs.1 e).1
   unfold rowQ at hu
   obtain⟨i,hi,hu⟩:=List.mem_map.1 hu
   refine⟨⟨y0,by omega⟩,i,List.mem_range.1 hi,?_⟩
   rw[jr (by rw[cD y0];exact e),← hu,Nat.add_assoc]
 · obtain⟨y,hy,y0,e⟩:=r3.has ((n+q * m+i:Nat):Int) (by unfold rowQ;exact List.mem_map.2 ⟨i,List.mem_range.2 hi,rfl⟩)
   refine⟨y,hy,?_⟩
   rw[jr (by rw[cD y0];exact e),Nat.add_assoc]
theorem Cx.mid {y:Int}(hy:Xn P.length y){q i:Nat}(hq:q<n) (hi:i<m) (ha:atP P y=((n+(q * m+i):Nat):Int)):(gI g).own y=false/\∃r,idx g.Arena.Next y=some r/\(∀z∈r,Xn P.length z/\∃o:Nat,o<k/\atP P z=tab d.Next q ((o * m+i:Nat):Int))/\∀o:Nat,o<k->∃z∈r,atP P z=tab d.Next q ((o * m+i:Nat):Int):=by
 obtain⟨v,hv,_,_⟩:=h.place hy
 rw[jr hv]at ha
 obtain⟨r,ar,rc,r1,r2,r3,r4,_⟩:=h.row hv
 have hlt:=oK (n:=n) hq hi
 obtain⟨ar',s1,s2,s3⟩:=h.con.r0 q i hq hi
 have hAr:ar=ar':=by
  rw[ha,bC,s1]at r2
  exact(Option.some.inj r2).symm
 subst hAr
 have how:idx g.Arena.Owner y=some 0:=by
  rw[r4,ha,bC,h.con.ol,List.getElem?_append_right (by simp),List.length_replicate,Nat.add_sub_cancel_left,List.getElem?_replicate,if_pos hlt]
 refine⟨?_,r,r1,λz hz=>?_,λo ho=>?_⟩
 · show ownL _ y=false
   unfold ownL
   rw[how];rfl
 · obtain⟨z0,u,hu,e⟩:=r3.to z hz
   have hl:=(gs.1 e).1
   obtain⟨o,ho,hu⟩:=(s3 u).1 hu
   exact⟨⟨z0,by omega⟩,o,ho,by rw[jr (by rw[cD z0];exact e),hu]⟩
 · obtain⟨z,hz,z0,e⟩:=r3.has _ ((s3 _).2 ⟨o,ho,rfl⟩)
   exact⟨z,hz,by rw[jr (by rw[cD z0];exact e)]⟩
theorem Cx.cellAt {q i o:Nat}(hq:q<n) (hi:i<m) (ho:o<k):∃row,idx d.Next (q:Int)=some row/\idx row ((o * m+i:Nat):Int)=some (tab d.Next q ((o * m+i:Nat):Int))/\0<=tab d.Next q ((o * m+i:Nat):Int)/\tab d.Next q ((o * m+i:Nat):Int)<(n:Int):=
 mA h.m1 h.m4 h.dl h.cell hq hi ho
theorem Cx.mine {x:Int}(hx:Xn P.length x) (ho:(gI g).own x=wB W x):∃y,idx pk x=some y/\Xn P.length y/\(gI g).E x y/\wB W y=wB W x:=by
 obtain⟨l1,_,_,_,_,l6⟩:=h.len
 have ha:=h.sol.ans
 rw[l1]at ha
 obtain⟨a1,a2,a3,a4⟩:=ha.mine x hx ho
 obtain⟨y,hy,_⟩:=dF (xs:=pk) hx.1 (by have:=hx.2;omega)
 rw[o4 hy]at a1 a2 a3 a4
 exact⟨y,hy,a3,a2,a4⟩
theorem Cx.yours {x y:Int}(hx:Xn P.length x) (ho:¬(gI g).own x=wB W x) (he:(gI g).E x y) (hy:Xn P.length y):wB W y=wB W x:=by
 obtain⟨l1,_⟩:=h.len
 have ha:=h.sol.ans
 rw[l1]at ha
 exact ha.yours x y hx ho he hy
end
def toP (P:List Place) (r:List Int) (z:Int):Option Nat:=r.findIdx? λy=>atP P y==z
theorem sG {P:List Place}{r:List Int}{z:Int}(h:∃y∈r,atP P y=z):∃j y,toP P r z=some j/\r[j]? =some y/\atP P y=z:=by
 obtain⟨y,hy,e⟩:=h
 cases hf:toP P r z with
 | none=>
  unfold toP at hf
  rw[List.findIdx?_eq_none_iff]at hf
  have:=hf y hy
  simp[e]at this
 | some j=>
  unfold toP at hf
  obtain⟨h1,h2,_⟩:=List.findIdx?_eq_some_iff_getElem.1 hf
  exact⟨j,r[j],rfl,bB h1,by simpa using h2⟩
def tgt (P:List Place) (r:List Int) (z:Int):Int:=match toP P r z with | some j=>r.getD j 0 | none=> -1
theorem ta {P:List Place}{r:List Int}{z:Int}(h:∃y∈r,atP P y=z):tgt P r z∈r/\atP P (tgt P r z)=z/\∃j:Nat,toP P r z=some j/\r[j]? =some (tgt P r z):=by
 obtain⟨j,y,h1,h2,h3⟩:=sG h
 have e:tgt P r z=y:=by
  unfold tgt
  rw[h1]
  show r.getD j 0=y
  rw[List.getD_eq_getElem?_getD,h2];rfl
 rw[e]
 exact⟨it h2,h3,j,h1,h2⟩
def eU (f:Nat->Int) (F:List Int):Nat->List Int×List Int
 | 0=>(F,[])
 | j+1=>(addN (eU f F j).1 (f j),(eU f F j).2++[ek (addN (eU f F j).1 (f j)) (f j)])
theorem oC {F:List Int}{t:Int}(h:t∈F):0<=ek F t/\ek F t<(F.length:Int):=by
 unfold ek
 cases hf:F.findIdx? (λx=>t==x) with
 | none=>
  rw[List.findIdx?_eq_none_iff]at hf
  have:=hf t h
  simp at this
 | some i=>
  obtain⟨h1,_⟩:=List.findIdx?_eq_some_iff_getElem.1 hf
  dsimp only
  omega
theorem sL {F:List Int}{t:Int}:t∈addN F t:=by
 unfold addN
 by_cases h:t∈F
 · rw[if_pos h];exact h
 · rw[if_neg h];simp
theorem tk {F:List Int}{t x:Int}(h:x∈addN F t):x∈F\/x=t:=by
 unfold addN at h
 by_cases ht:t∈F
 · rw[if_pos ht]at h;exact .inl h
 · rw[if_neg ht]at h;simpa using h
theorem oF {F:List Int}(t:Int) (hl:F.length<=1000):(bif decide (ek F t<0) then br (appS 8 F [t]) λx=>some (x,(F.length:Int)) else some (F,ek F t))=some (addN F t,ek (addN F t) t):=by
 by_cases h:t∈F
 · rw[decide_eq_false (by have:=(oC h).1;omega),cond_false]
   unfold addN
   rw[if_pos h]
 · rw[sc h,decide_eq_true (by omega),cond_true,app1 (by omega) rfl]
   unfold addN
   rw[if_neg h,sj h];rfl
structure NmRow (N:Nat) (F:List Int) (j:Nat) (Q:Int->Prop) (F' row:List Int):Prop where
 nm:Names N F'
 pre:∀(i:Nat) v,F[i]? =some v->F'[i]? =some v
 len:F.length<=F'.length
 le:F'.length<=F.length+j
 rl:row.length=j
 rin:∀x∈row,0<=x/\x<(F'.length:Int)
 all:∀x∈F',Q x
theorem qG {N:Nat}{F:List Int}{Q:Int->Prop}(hF:Names N F) (hQ:∀x∈F,Q x){f:Nat->Int}{c:Nat}(hf:∀j,j<c->0<=f j/\f j<(N:Int)/\Q (f j)):∀j,j<=c->NmRow N F j Q (eU f F j).1 (eU f F j).2
 | 0,_=>⟨hF,λ_ _ h=>h,Nat.le_refl _,Nat.le_refl _,rfl,λx hx=>(by cases hx),hQ⟩
 | j+1,hj=>by
  have r:=qG hF hQ hf j (by omega)
  obtain⟨f0,f1,f2⟩:=hf j (by omega)
  unfold eU
  generalize eU f F j=G at *
  obtain⟨a1,a2⟩:=r.nm.add f0 f1
  have hlen:G.1.length<=(addN G.1 (f j)).length/\(addN G.1 (f j)).length<=G.1.length+1:=by
   unfold addN
   by_cases h:f j∈G.1
   · rw[if_pos h];omega
   · rw[if_neg h,vx];simp
  have h1:=r.len
  have h2:=r.le
  have hm:=oC (sL (F:=G.1) (t:=f j))
  refine⟨a1,λi v hv=>a2 i v (r.pre i v hv),by dsimp only;omega,by dsimp only;omega,by simp[r.rl],λx hx=>?_,λx hx=>?_⟩
  · rcases vF.1 hx with hx | hx
    · have:=r.rin x hx
      dsimp only;omega
    · rw[vy.1 hx];exact hm
  · rcases tk hx with hx | hx
    · exact r.all x hx
    · rw[hx];exact f2
end Go.Proofs.Ytpcjbkgbnoocaaa
set_option linter.unusedVariables false
set_option linter.unusedSimpArgs false
namespace Go.Proofs.Ytpcjbkgbnoocaaa
open Go Go.Wk Go.Proofs
theorem sU (p:Sig):ir p zeroD=some false:=by
 cases hs:sigOk p with
 | true=>
  rw[jk hs (λx hx=>by cases hx)]
  rfl
 | false=>
  unfold ir
  rw[dj,hs];rfl
theorem sX (p:Sig):dg p zeroD=some (⟨[],[]⟩,[],false):=by
 unfold dg
 rw[sU];rfl
theorem tj:dp ⟨[],[]⟩ [] 0=some noRec:=by
 unfold dp
 rw[ke];rfl
structure Stp3 (p:Sig) (cs:List Clause) (d:Det) (n m k:Nat) (A:Arena) (P:List Place) (g:Parity) (W:Int->Prop) (pk:List Int):Prop where
 sig:sigOk p=true
 det:detOk p d=true
 im:pw p.In=(m:Int)
 ok:pw p.Out=(k:Int)
 cx:Cx d n m k A P g W pk
 sC:dg p d=some (A,d.Pairs,true)
 iC:gT p d=some (A,d.Pairs)
 sR:dp A d.Pairs 0=some (g,P,true)
 iR:gH A d.Pairs 0=some (g,P,true)
 sS:jU g=some ⟨wonL g.Prio.length W,pk⟩
 iS:mg g=some ⟨wonL g.Prio.length W,pk⟩
 sW:ga g=some (wonL g.Prio.length W)
 iW:iy g=some (wonL g.Prio.length W)
 won:idx (wonL g.Prio.length W) 0=some (b2i (wB W 0))
structure Stp2 (p:Sig) (d:Det) (A:Arena):Prop where
 sig:sigOk p=true
 det:detOk p d=true
 pb:∀x∈d.Pairs,x.Ask.length<=1000000000/\x.Give.length<=1000000000
 aok:cZ A=true
 pok:pairsOk d.Pairs (A.Owner.length:Int)=true
 a1:1<=A.Owner.length/\A.Owner.length<=256
 sC:dg p d=some (A,d.Pairs,true)
 iC:gT p d=some (A,d.Pairs)
theorem setup (p:Sig){cs:List Clause}(hb:∀c∈cs,Clause.bd c):(dS p cs=some (zeroD,false)/\fv p cs=some (zeroD,false))\/∃d A,dS p cs=some (d,true)/\fv p cs=some (d,true)/\Stp2 p d A /\
 ((dp A d.Pairs 0=some noRec/\gH A d.Pairs 0=some noRec)\/∃n m k P g W pk,Stp3 p cs d n m k A P g W pk):=by
 rcases pF p hb with ⟨h1,h2,_⟩ | ⟨hs,hc,_,d,_,_,_,hd,_,h1,h2⟩
 · exact .inl ⟨h1,h2⟩
 · right
   obtain⟨n,m,k,A,q1,q2,q3,n1,n48,m1,m4,k1,k4,hD,hpb,hA,hsC,hiC⟩:=pl hs hd
   have hAok:=uN n48 n1 m1 m4 k1 k4 q1 hD hA
   have hol:A.Owner.length=n+n * m:=by rw[hA.ol];simp
   have hnm:n * m<=48 * 4:=Nat.mul_le_mul n48 m4
   have hps:pairsOk d.Pairs (A.Owner.length:Int)=true:=by
    have hd':=hd
    unfold detOk at hd'
    simp only[vv]at hd'
    have hp:=hd'.1.2
    unfold pairsOk at hp ⊢
    rw[vv,List.all_eq_true]at hp ⊢
    refine⟨hp.1,λx hx=>?_⟩
    have:=hp.2 x hx
    unfold pairOk at this ⊢
    rw[vv]at this ⊢
    exact⟨(St.of this.1).ok (by omega),(St.of this.2).ok (by omega)⟩
   refine⟨d,A,h1,h2,⟨hs,hd,hpb,hAok,hps,⟨by omega,by omega⟩,hsC,hiC⟩,?_⟩
   rcases od hAok hps hpb (Int.le_refl 0) (by omega) with ⟨r1,r2⟩ | ⟨P,g,hG,hok,r1,r2⟩
   · exact .inl ⟨r1,r2⟩
   · right
     obtain⟨W,pk,s1,s2,s3,s4,s5⟩:=qi hok
     have hcx:Cx d n m k A P g W pk:=⟨n1,n48,m1,m4,k1,k4,q1,hD,hA,hG,hok,s5⟩
     obtain⟨l1,_,_,_,l5,_⟩:=hcx.len
     exact⟨n,m,k,P,g,W,pk,hs,hd,q2,q3,hcx,hsC,hiC,r1,r2,s1,s2,s3,s4,jI ⟨Int.le_refl _,by omega⟩⟩
end Go.Proofs.Ytpcjbkgbnoocaaa
set_option linter.unusedVariables false
set_option linter.unusedSimpArgs false
namespace Go.Proofs.Ytpcjbkgbnoocaaa
open Go Go.Wk Go.Proofs
theorem uz {P:List Place}{r:List Int}{z:Int}(hr:∀y∈r,Xn P.length y):mE r P z=some (tgt P r z):=by
 unfold mE
 rw[ee (f:=iF r P z) (λy=>atP P y==z) (λi=>r.getD i 0) (xs:=r) (λi y hy=>by
  obtain⟨v,hv,_⟩:=dF (xs:=P) (hr y (it hy)).1 (hr y (it hy)).2
  unfold iF
  rw[bC,hy,bt,hv,bt,jr hv,bt,List.getD_eq_getElem?_getD,hy]
  cases v.At==z <;> rfl)]
 unfold tgt toP
 cases r.findIdx? (λy=>atP P y==z) <;> rfl
theorem uo {P:List Place}{r:List Int}{z:Int}(hr:∀y∈r,Xn P.length y){j:Nat}(hj:toP P r z=some j):bX r P z=some (j:Int):=by
 rw[dY (λy=>atP P y==z) (λy hy=>by
  obtain⟨v,hv,_⟩:=dF (xs:=P) (hr y hy).1 (hr y hy).2
  unfold jw
  rw[hv,bt,jr hv])]
 unfold toP at hj
 rw[hj]
section
variable {p:Sig}(hs:sigOk p=true){d:Det}{n m k:Nat}{A:Arena}{P:List Place}{g:Parity}{W:Int->Prop}{pk wn:List Int}(h:Cx d n m k A P g W pk) (hm:pw p.In=(m:Int)) (hk:pw p.Out=(k:Int))
include hs h hm hk
theorem qe {F:List Int}(hF:F.length<=256){v u:Place}{y:Int}{q i:Nat}{r:List Int}(hq:q<n) (hi:i<m) (hv:v.At=(q:Int)) (hr:idx g.Arena.Next y=some r) (hR:∀z∈r,Xn P.length z) (hA:∀o:Nat,o<k->∃z∈r,atP P z=tab d.Next q ((o * m+i:Nat):Int)) (hin:Int.tmod (IntKind.i64.wrap (u.At-(d.Next.length:Int))) (m:Int)=(i:Int)):
 (∃z,bP (dM p (d,true) (g,P,true) v y u (m:Int)) (2 ^ 64) (F,[],0)=some (.inr ((eU (λo=>tgt P r (tab d.Next q ((o * m+i:Nat):Int))) F k).1,(eU (λo=>tgt P r (tab d.Next q ((o * m+i:Nat):Int))) F k).2,z))) /\
 cntM (go p d g P v y u (m:Int)) k 0 (F,[])=some (.inr (eU (λo=>tgt P r (tab d.Next q ((o * m+i:Nat):Int))) F k)):=by
 have hk4:=h.k4
 have hm4:=h.m4
 generalize hfe:(λo:Nat=>tgt P r (tab d.Next q ((o * m+i:Nat):Int)))=f
 have hf:∀o,f o=tgt P r (tab d.Next q ((o * m+i:Nat):Int)):=λo=>by rw[← hfe]
 have hlen:∀j,j<=k->(eU f F j).1.length<=300/\(eU f F j).2.length=j:=by
  intro j
  induction j with
  | zero=>intro _;exact⟨by show F.length<=300;omega,rfl⟩
  | succ j ih=>
   intro hj
   have hle:(eU f F j).1.length<=F.length+j:=by
    clear ih hj
    induction j with
    | zero=>exact Nat.le_refl _
    | succ j ih=>
     show(addN _ _).length<=_
     unfold addN
     split
     · omega
     · rw[vx];simp;omega
   obtain⟨_,b⟩:=ih (by omega)
   refine⟨?_,by show((eU f F j).2++[_]).length=_;rw[vx,b];rfl⟩
   show(addN _ _).length<=300
   unfold addN
   split
   · omega
   · rw[vx];simp;omega
 have hfacts:∀j:Nat,j<k->∃row,idx d.Next v.At=some row/\idx row ((j:Int) * (m:Int)+(i:Int))=some (tab d.Next q ((j * m+i:Nat):Int))/\∃jj:Nat,toP P r (tab d.Next q ((j * m+i:Nat):Int))=some jj/\r[jj]? =some (f j):=λj hj=>by
  obtain⟨row,r1,r2,_⟩:=h.cellAt hq hi hj
  obtain⟨_,_,jj,t1,t2⟩:=ta (hA j hj)
  refine⟨row,by rw[hv];exact r1,?_,jj,t1,by rw[hf];exact t2⟩
  rw[← r2]
  congr 1
 constructor
 · obtain⟨o,w1,w2⟩:=cm (f:=dM p (d,true) (g,P,true) v y u (m:Int)) (λj (s:List Int×List Int×Int)=>s=((eU f F j).1,(eU f F j).2,(j:Int))/\j<=k) (λ_=>False) (λs=>∃z,s=((eU f F k).1,(eU f F k).2,z)) k (λj s ⟨e,hj⟩=>by
    subst e
    obtain⟨l1,l2⟩:=hlen j hj
    unfold dM cP
    dsimp only
    rw[ck (cM hs).2,hk,bt,bt]
    by_cases hlt:j<k
    · obtain⟨row,r1,r2,jj,t1,t2⟩:=hfacts j hlt
      rw[decide_eq_true (show(j:Int)<(k:Int) by omega),cond_true,hr,bt,r1,bt,hin]
      rw[kN hs (x:=(i:Int)) (o:=(j:Int)) (by omega) (by omega) (by omega) (by omega),hm,bt,r2,bt,uz hR,bt,← hf,pX,bt,oF _ (by omega),bt]
      dsimp only
      rw[app1 (by omega) rfl,bt,wr' (by omega) (by omega)]
      exact⟨_,rfl,hlt,by rfl,by omega⟩
    · have:j=k:=by omega
      subst this
      rw[decide_eq_false (show ¬((j:Nat):Int)<(j:Int) by omega),cond_false]
      exact⟨_,rfl,_,rfl⟩) (2 ^ 64) 0 (F,[],0) (by omega) ⟨rfl,Nat.zero_le _⟩ (by omega)
   match o,w2 with
   | .inr s,⟨z,e⟩=>exact⟨z,by rw[w1,e]⟩
 · obtain⟨s,h1,h2⟩:=bO (f:=go p d g P v y u (m:Int)) (λj s=>s=eU f F j) k (s:=(F,[])) rfl (λj s hj e=>by
    subst e
    obtain⟨l1,l2⟩:=hlen j (by omega)
    obtain⟨row,r1,r2,jj,t1,t2⟩:=hfacts j hj
    have hb:j * m<=4 * 4:=Nat.mul_le_mul (by omega) (by omega)
    have e:(j:Int) * (m:Int)=((j * m:Nat):Int):=by simp
    refine⟨eU f F (j+1),?_,rfl⟩
    unfold go
    rw[r1,bt,ju hs,hm,bt,hin,wr' (z:=(j:Int) * (m:Int)) (by omega) (by omega),wr' (z:=(j:Int) * (m:Int)+(i:Int)) (by omega) (by omega),r2,bt,hr,bt,uo hR t1,bt,bt,bC,t2,bt,qA,bt,oF _ (by omega),bt]
    dsimp only
    rw[app1 (by omega) rfl,bt]
    rfl)
   rw[h1,h2]
structure Ctr (N m k:Nat) (Q:Int->Prop) (F:List Int) (i:Nat) (In:List Int) (Nx:List (List Int)):Prop where
 il:i<=F.length
 nm:Names N F
 all:∀x∈F,Q x
 zero:F[0]? =some 0
 inl:In.length=i
 nxl:Nx.length=i
 inr:∀x∈In,0<=x/\x<(m:Int)
 nxr:∀row∈Nx,row.length=k/\∀x∈row,0<=x/\x<(F.length:Int)
theorem pG (h0:wB W 0=true):∃s:List Int×Int×List Int×List (List Int),bP (cV p (d,true) (g,P,true) ⟨wn,pk⟩) (2 ^ 64) ([0],0,[],[])=some (.inr s)/\bP (fI p d g P ⟨wn,pk⟩) (2 ^ 64) ([0],0,[],[])=some (.inr s)/\Ctr P.length m k (λx=>wB W x=true/\atP P x<(n:Int)) s.1 s.1.length s.2.2.1 s.2.2.2:=by
 obtain⟨_,_,_,hP256,hP1,hpk⟩:=h.len
 have hm1:=h.m1
 have hm4:=h.m4
 have hk1:=h.k1
 have hk4:=h.k4
 have hn48:=h.n48
 obtain⟨sh1,sh2⟩:=fi (cM hs).2
 rw[hk]at sh2
 have hrk:rng (k:Int)=some ():=by unfold rng;rw[if_pos (by omega)]
 have hk0:vu ((k:Int)-0)=k:=by omega
 have hnz:nz (m:Int)=some ():=by unfold nz;rw[if_neg (by omega)]
 have hz0:atP P 0<(n:Int):=by
  have hz:=h.rg.game.zero
  rw[jr (v:=⟨0,firstR d.Pairs.length⟩) (by rw[show(0:Int)=((0:Nat):Int) from rfl,bC];exact hz)]
  have:=h.n1
  show(0:Int)<_
  omega
 obtain⟨o,t,w1,w2,w3⟩:=lw (f:=cV p (d,true) (g,P,true) ⟨wn,pk⟩) (g:=fI p d g P ⟨wn,pk⟩) (λs t=>s=t/\∃i:Nat,s.2.1=(i:Int)/\Ctr P.length m k (λx=>wB W x=true/\atP P x<(n:Int)) s.1 i s.2.2.1 s.2.2.2) (λs=>300-s.2.1.toNat) (λ_ _=>False)
  (λs t=>s=t/\Ctr P.length m k (λx=>wB W x=true/\atP P x<(n:Int)) s.1 s.1.length s.2.2.1 s.2.2.2) (λs t ⟨e,i,hi,hC⟩=>by
  subst e
  obtain⟨F,z,In,Nx⟩:=s
  dsimp only at hi hC
  subst hi
  have hFl:=hC.nm.len
  unfold cV fI
  dsimp only
  by_cases hlt:i<F.length
  · have hx:F[i]? =some F[i]:=bB hlt
    generalize F[i]=x at hx
    have hxm:=it hx
    have hxX:Xn P.length x:=hC.nm.2 x hxm
    obtain⟨hxw,hxa⟩:=hC.all x hxm
    obtain⟨v,hv,v0,v1⟩:=h.place hxX
    rw[jr hv]at hxa
    obtain⟨hown,q,rx,hvq,hq,hrx,hrow,_⟩:=h.state hv hxa
    obtain⟨y,hy,hyX,hye,hyw⟩:=h.mine hxX (by rw[hown,hxw])
    obtain⟨_,ii,hii,hya⟩:=hrow y ((rK hrx).1 hye)
    obtain⟨u,hu,_,_⟩:=h.place hyX
    obtain⟨hyo,r,hr,hR1,hR2⟩:=h.mid hyX hq hii hya
    have hua:u.At=((n+(q * m+ii):Nat):Int):=by rw[← jr hu];exact hya
    have hlt2:=oK (n:=n) hq hii
    have hnm:n * m<=48 * 4:=Nat.mul_le_mul hn48 hm4
    have hin:Int.tmod (IntKind.i64.wrap (u.At-(d.Next.length:Int))) (m:Int)=(ii:Int):=by
     rw[hua,h.dl,wr' (by omega) (by omega),show((n+(q * m+ii):Nat):Int)-(n:Int)=((q * m+ii:Nat):Int) by omega,Int.tmod_eq_emod_of_nonneg (by omega)]
     have:(q * m+ii) % m=ii:=by
      rw[Nat.mul_comm,Nat.mul_add_mod]
      exact Nat.mod_eq_of_lt hii
     omega
    obtain⟨⟨zz,c1⟩,c2⟩:=qe hs h hm hk (F:=F) (v:=v) (u:=u) (y:=y) (by omega) hq hii hvq hr (λz hz=>(hR1 z hz).1) hR2 hin
    have hN:=qG (N:=P.length) (F:=F) (Q:=λx=>wB W x=true/\atP P x<(n:Int)) hC.nm hC.all (f:=λo=>tgt P r (tab d.Next q ((o * m+ii:Nat):Int))) (c:=k) (λj hj=>by
     obtain⟨t1,t2,_⟩:=ta (hR2 j hj)
     obtain⟨t3,_⟩:=hR1 _ t1
     obtain⟨_,_,_,_,b2⟩:=h.cellAt hq hii hj
     refine⟨t3.1,t3.2,?_,by rw[t2];exact b2⟩
     rw[h.yours hyX (by rw[hyo,hyw,hxw];simp) ((rK hr).2 t1) t3,hyw,hxw]) k (Nat.le_refl _)
    generalize eU (λo=>tgt P r (tab d.Next q ((o * m+ii:Nat):Int))) F k=G at *
    have e1:=hC.inl
    have e2:=hC.nxl
    rw[decide_eq_true (show(i:Int)<(F.length:Int) by omega),cond_true,cond_true,bC,hx,bt,bt,hv,bt,bt,bt,bt,hy,bt,bt,hu,bt,bt]
    unfold dc
    rw[ck (cM hs).1,ju hs,hm,bt,bt,bt,hnz,bt,bt,sh1,bt,sh2,hrk,bt,hk0,c1,c2,bt,bt,bD,bD,hin]
    dsimp only
    rw[app1 (xs:=In) (by omega) rfl,bt,bt,app1 (xs:=Nx) (by omega) rfl,bt,bt,wr' (by omega) (by omega)]
    have hl1:=hN.len
    refine⟨_,_,rfl,rfl,⟨rfl,i+1,by dsimp only;omega,⟨by dsimp only;omega,hN.nm,hN.all,hN.pre 0 _ hC.zero,by dsimp only;rw[vx,e1];rfl,by dsimp only;rw[vx,e2];rfl,λa ha=>?_,λrow hrow'=>?_⟩⟩,?_⟩
    · rcases vF.1 ha with ha | ha
      · exact hC.inr a ha
      · rw[vy.1 ha];omega
    · rcases vF.1 hrow' with hr' | hr'
      · obtain⟨b1,b2⟩:=hC.nxr row hr'
        exact⟨b1,λx hx=>by have:=b2 x hx;dsimp only;omega⟩
      · rw[vy.1 hr']
        exact⟨hN.rl,hN.rin⟩
    · dsimp only;omega
  · have hil:=hC.il
    have:i=F.length:=by omega
    subst this
    rw[decide_eq_false (show ¬((F.length:Nat):Int)<(F.length:Int) by omega),cond_false,cond_false]
    exact⟨_,_,rfl,rfl,rfl,hC⟩) (2 ^ 64) (2 ^ 64) ([0],0,[],[]) ([0],0,[],[]) (by dsimp only;omega) (by dsimp only;omega) ⟨rfl,0,rfl,⟨by simp,⟨by simp,λx hx=>by rw[vy.1 hx];omega⟩,λx hx=>by rw[vy.1 hx];exact⟨h0,hz0⟩,rfl,rfl,rfl,λx hx=>(by cases hx),λx hx=>(by cases hx)⟩⟩
 match o,t,w3 with
 | .inr s,.inr t,⟨e,hC⟩=>
  subst e
  exact⟨s,w1,w2,hC⟩
end
end Go.Proofs.Ytpcjbkgbnoocaaa
set_option linter.unusedVariables false
set_option linter.unusedSimpArgs false
namespace Go.Proofs.Ytpcjbkgbnoocaaa
open Go Go.Wk Go.Proofs
def noRiv:Rival:=⟨[],[]⟩
theorem oc (p:Sig){cs:List Clause}(hb:∀c∈cs,Clause.bd c):(fw p cs=some (noRiv,false)/\kE p cs=some (noRiv,false)) \/
 ∃(N m k:Nat) (F In:List Int) (Nx:List (List Int)) (Q:Int->Prop),Ctr N m k Q F F.length In Nx/\N<=256/\sigOk p=true/\pw p.In=(m:Int)/\pw p.Out=(k:Int)/\fw p cs=some (⟨In,Nx⟩,true)/\kE p cs=some (⟨In,Nx⟩,true):=by
 unfold fw kE
 rcases setup p hb with ⟨h1,h2⟩ | ⟨d,A,h1,h2,S2,⟨r1,r2⟩ | ⟨n,m,k,P,g,W,pk,S⟩⟩
 · left
   simp only[h1,h2,bt,sX,tj]
   exact⟨rfl,rfl⟩
 · left
   simp only[h1,h2,S2.sC,S2.iC,r1,r2,bt,vw,cond_false]
   exact⟨rfl,rfl⟩
 · simp only[h1,h2,S.sC,S.iC,S.sR,S.iR,S.iW,S.won,S.sS,bt,vw,cond_false]
   cases hw:wB W 0 with
   | false=>
    left
    exact⟨rfl,rfl⟩
   | true=>
    right
    obtain⟨s,w1,w2,hC⟩:=pG (wn:=wonL g.Prio.length W) S.sig S.cx S.im S.ok hw
    obtain⟨_,_,_,l4,_⟩:=S.cx.len
    refine⟨P.length,m,k,s.1,s.2.2.1,s.2.2.2,_,hC,l4,S.sig,S.im,S.ok,?_,?_⟩
    · show(br (bP (cV p (d,true) (g,P,true) ⟨wonL g.Prio.length W,pk⟩) (2 ^ 64) ([0],0,[],[])) _)=_
      rw[w1];rfl
    · show(br (kR p d g P) _)=_
      unfold kR
      rw[S.iS,bt,w2];rfl
end Go.Proofs.Ytpcjbkgbnoocaaa
set_option linter.unusedVariables false
set_option linter.unusedSimpArgs false
namespace Go.Proofs.Ytpcjbkgbnoocaaa
open Go Go.Wk Go.Proofs
def rivalOk (p:Sig) (r:Rival):Bool:=
 decide (1<=(r.In.length:Int))&&decide ((r.In.length:Int)<=256)&&((r.Next.length:Int)==(r.In.length:Int))&&r.In.all (inR (pw p.In))&&r.Next.all (λxs=>((xs.length:Int)==pw p.Out)&&xs.all (inR (r.In.length:Int)))
theorem kw (p:Sig) (r:Rival) (hr:r.In.length<=1048576):gE p r=some (sigOk p&&rivalOk p r):=by
 unfold gE
 rw[dj,bt]
 cases hs:sigOk p with
 | false=>simp
 | true=>
  obtain⟨h1,h2⟩:=cM hs
  simp only[vw,cond_false,cT,bt,dc,ck h1]
  unfold rivalOk
  have hp:=jp p.In
  rw[eV _ (by omega) (by omega)]
  have hm:=cU (f:=fR p r) (r:=false) (λxs=>((xs.length:Int)==pw p.Out)&&xs.all (inR (r.In.length:Int))) (xs:=r.Next) rfl (λi y hy=>by
   unfold fR
   simp only[bC,hy,bt,cP,ck h2,eV y (n:=(r.In.length:Int)) (by omega) (by omega),bne]
   generalize y.all (inR (r.In.length:Int))=b1
   generalize((y.length:Int)==pw p.Out)=b2
   cases b1 <;> cases b2 <;> rfl)
  rw[hm,bne]
  generalize(r.Next.all (λxs=>((xs.length:Int)==pw p.Out)&&xs.all (inR (r.In.length:Int))))=b1
  generalize((r.Next.length:Int)==(r.In.length:Int))=b2
  generalize r.In.all (inR (pw p.In))=b3
  generalize(decide (1<=(r.In.length:Int))&&decide ((r.In.length:Int)<=256))=b4
  cases b1 <;> cases b2 <;> cases b3 <;> cases b4 <;> rfl
theorem iv (p:Sig) (r:Rival) (hs:sigOk p=true):fq p r=some (rivalOk p r):=by
 obtain⟨h1,h2⟩:=cM hs
 unfold fq rivalOk dV
 simp only[(fi h1).1,(fi h1).2,bt,fj]
 have hm:=cU (f:=fU p r) (r:=false) (λxs=>((xs.length:Int)==pw p.Out)&&xs.all (inR (r.In.length:Int))) (xs:=r.Next) rfl (λi y hy=>by
  unfold fU
  simp only[bC,hy,bt,(fi h2).1,(fi h2).2,fj,bne]
  generalize y.all (inR (r.In.length:Int))=b1
  generalize((y.length:Int)==pw p.Out)=b2
  cases b1 <;> cases b2 <;> rfl)
 rw[hm,bne]
 have e1:decide ((r.In.length:Int)<1)= !(decide (1<=(r.In.length:Int))):=by rw[← decide_not];exact decide_eq_decide.2 (by omega)
 have e2:decide (256<(r.In.length:Int))= !(decide ((r.In.length:Int)<=256)):=by rw[← decide_not];exact decide_eq_decide.2 (by omega)
 rw[e1,e2]
 generalize(r.Next.all (λxs=>((xs.length:Int)==pw p.Out)&&xs.all (inR (r.In.length:Int))))=b1
 generalize((r.Next.length:Int)==(r.In.length:Int))=b2
 generalize r.In.all (inR (pw p.In))=b3
 generalize(decide (1<=(r.In.length:Int)))=b4
 generalize(decide ((r.In.length:Int)<=256))=b5
 cases b1 <;> cases b2 <;> cases b3 <;> cases b4 <;> cases b5 <;> rfl
theorem mB {p:Sig}{r:Rival}(h:rivalOk p r=true):1<=r.In.length/\r.In.length<=256/\r.Next.length=r.In.length/\(∀x∈r.In,0<=x/\x<pw p.In)/\∀xs∈r.Next,(xs.length:Int)=pw p.Out/\∀x∈xs,0<=x/\x<r.In.length:=by
 simp only[rivalOk,vv,decide_eq_true_eq,beq_iff_eq,List.all_eq_true,ej]at h
 obtain⟨⟨⟨⟨h1,h2⟩,h3⟩,h4⟩,h5⟩:=h
 exact⟨by omega,by omega,by omega,h4,h5⟩
end Go.Proofs.Ytpcjbkgbnoocaaa
set_option linter.unusedVariables false
set_option linter.unusedSimpArgs false
namespace Go.Proofs.Ytpcjbkgbnoocaaa
open Go Go.Wk Go.Proofs
def inAt (r:Rival) (q:Int):Int:=r.In.getD q.toNat 0
section
variable {p:Sig}{r:Rival}(hr:rivalOk p r=true)
include hr
theorem rL {q:Int}(q0:0<=q) (q1:q<r.In.length):idx r.In q=some (inAt r q)/\0<=inAt r q/\inAt r q<pw p.In:=by
 obtain⟨_,_,_,h4,_⟩:=mB hr
 obtain⟨x,h5,h6⟩:=dF (xs:=r.In) q0 q1
 have e:inAt r q=x:=by
  unfold inAt
  rw[cD q0]at h5
  rw[List.getD_eq_getElem?_getD,h5,Option.getD_some]
 rw[e]
 exact⟨h5,h4 x h6⟩
end
end Go.Proofs.Ytpcjbkgbnoocaaa
set_option linter.unusedVariables false
set_option linter.unusedSimpArgs false
namespace Go.Proofs.Ytpcjbkgbnoocaaa
open Go Go.Wk Go.Proofs
def Cur (i:Int):Prop:=0<=i/\i<=4096
theorem pN (A:BitVec (IntKind.bits IntKind.i64)):0<=IntKind.i64.wrap ((A &&& BitVec.ofInt (IntKind.bits IntKind.i64) 255).toNat:Int)/\IntKind.i64.wrap ((A &&& BitVec.ofInt (IntKind.bits IntKind.i64) 255).toNat:Int)<=255:=by
 have h:(A &&& BitVec.ofInt (IntKind.bits IntKind.i64) 255).toNat<=255:=by
  rw[BitVec.toNat_and,oh (by omega) (by omega)]
  exact Nat.and_le_right
 rw[wr' (by omega) (by omega)]
 omega
section
variable {b:List Int}(hl:b.length<=4096)
include hl
theorem pz {i h:Int}(hi:Cur i):∃x i' h',gg ⟨b,i,h⟩=some (x,i',h')/\0<=x/\x<=255/\Cur i':=by
 obtain⟨i0,i1⟩:=hi
 unfold gg
 dsimp only
 by_cases hlt:i<(b.length:Int)
 · obtain⟨y,hy,_⟩:=dF (xs:=b) i0 hlt
   simp only[hlt,decide_true,cond_true,hy,bt]
   refine⟨_,_,_,rfl,(pN _).1,(pN _).2,?_⟩
   show Cur (IntKind.i64.wrap (i+1))
   rw[wr' (by omega) (by omega)];unfold Cur;omega
 · simp only[hlt,decide_false,cond_false,bt]
   exact⟨_,_,_,rfl,(pN _).1,(pN _).2,i0,i1⟩
theorem lh {i h:Int}(hi:Cur i) (k:Int):∃x i' h',cd ⟨b,i,h⟩ k=some (x,i',h')/\0<=x/\(1<=k->x<k)/\Cur i':=by
 unfold cd
 by_cases hk:k<=0
 · simp only[hk,decide_true,cond_true]
   exact⟨_,_,_,rfl,Int.le_refl _,λh=>by omega,hi⟩
 · simp only[hk,decide_false,cond_false]
   have hnz:nz k=some ():=by unfold nz;rw[if_neg (by omega)]
   obtain⟨x1,i1,h1,e1,a0,a1,c1⟩:=pz hl (h:=h) hi
   by_cases hk2:k<=256
   · simp only[hk2,decide_true,cond_true,e1,bt,hnz]
     rw[Int.tmod_eq_emod_of_nonneg a0]
     exact⟨_,_,_,rfl,Int.emod_nonneg _ (by omega),λ_=>Int.emod_lt_of_pos _ (by omega),c1⟩
   · simp only[hk2,decide_false,cond_false,e1,bt,hnz]
     obtain⟨x2,i2,h2,e2,b0,b1,c2⟩:=pz hl (h:=h1) c1
     obtain⟨x3,i3,h3,e3,d0,d1,c3⟩:=pz hl (h:=h2) c2
     obtain⟨x4,i4,h4,e4,f0,f1,c4⟩:=pz hl (h:=h3) c3
     simp only[e2,e3,e4,bt]
     rw[wr' (z:=x1 * 16777216) (by omega) (by omega),wr' (z:=x2 * 65536) (by omega) (by omega),wr' (z:=x3 * 256) (by omega) (by omega),wr' (z:=x1 * 16777216+x2 * 65536) (by omega) (by omega),wr' (z:=x1 * 16777216+x2 * 65536+x3 * 256) (by omega) (by omega),wr' (by omega) (by omega),Int.tmod_eq_emod_of_nonneg (by omega)]
     exact⟨_,_,_,rfl,Int.emod_nonneg _ (by omega),λ_=>Int.emod_lt_of_pos _ (by omega),c4⟩
theorem qY {i h:Int}(hi:Cur i) (k:Int):∃x i' h',cY ⟨b,i,h⟩ k=some (x,i',h')/\Cur i':=by
 obtain⟨x,i',h',e,_,_,c⟩:=lh hl (h:=h) hi k
 unfold cY
 rw[e]
 exact⟨_,_,_,rfl,c⟩
theorem ud {i h:Int}(hi:Cur i):∃x i' h',kv ⟨b,i,h⟩=some (x,i',h')/\Cur i':=by
 obtain⟨x,i',h',e,x0,x1,c⟩:=lh hl (h:=h) hi 10
 unfold kv
 rw[e,bt]
 have x1:=x1 (by omega)
 obtain⟨y,hy,_⟩:=dF (xs:=([(-1),0,1,2147483648,(-2147483648),1099511627776,4611686018427387904,(-4611686018427387904),9223372036854775807,(-9223372036854775808)]:List Int)) x0 (by simp;omega)
 dsimp only
 rw[hy]
 exact⟨_,_,_,rfl,c⟩
theorem vh {i h:Int}(hi:Cur i) (k:Int):∃x i' h',jm ⟨b,i,h⟩ k=some (x,i',h')/\Cur i':=by
 obtain⟨x1,i1,h1,e1,c1⟩:=qY hl (h:=h) hi 10
 unfold jm
 rw[e1,bt]
 dsimp only
 cases x1 with
 | true=>
  obtain⟨x2,i2,h2,e2,c2⟩:=ud hl (h:=h1) c1
  obtain⟨x3,i3,h3,e3,a0,a1,c3⟩:=lh hl (h:=h2) c2 4
  have a1:=a1 (by omega)
  obtain⟨y,hy,_⟩:=dF (xs:=([(-1),k,(IntKind.i64.wrap (k+1)),x2]:List Int)) a0 (by simp;omega)
  simp only[cond_true,e2,e3,hy,bt]
  exact⟨_,_,_,rfl,c3⟩
 | false=>
  obtain⟨x2,i2,h2,e2,c2⟩:=qY hl (h:=h1) c1 2
  simp only[cond_false,e2,bt]
  cases x2 with
  | true=>
   have hm:∃z,jf k 4=some z:=by
    unfold jf
    by_cases h:k<4 <;> simp[h]
   obtain⟨z,hz⟩:=hm
   obtain⟨x3,i3,h3,e3,_,_,c3⟩:=lh hl (h:=h2) c2 (IntKind.i64.wrap (z+1))
   simp only[cond_true,hz,e3,bt]
   exact⟨_,_,_,rfl,c3⟩
  | false=>
   obtain⟨x3,i3,h3,e3,_,_,c3⟩:=lh hl (h:=h2) c2 (IntKind.i64.wrap (k+1))
   simp only[cond_false,e3,bt]
   exact⟨_,_,_,rfl,c3⟩
end
end Go.Proofs.Ytpcjbkgbnoocaaa
set_option linter.unusedVariables false
set_option linter.unusedSimpArgs false
namespace Go.Proofs.Ytpcjbkgbnoocaaa
open Go Go.Wk Go.Proofs
theorem bqQ {α β:Type}{o:Option α}{f:α->Option β}{P:α->Prop}{R:β->Prop}(h:∃q,o=some q/\P q) (k:∀q,P q->∃r,f q=some r/\R r):∃r,br o f=some r/\R r:=by
 obtain⟨q,e,hq⟩:=h
 obtain⟨r,hr⟩:=k q hq
 exact⟨r,by rw[e];exact hr.1,hr.2⟩
theorem biQ {β:Type}{c:Bool}{A B:Option β}{R:β->Prop}(h1:c=true->∃r,A=some r/\R r) (h2:c=false->∃r,B=some r/\R r):∃r,(bif c then A else B)=some r/\R r:=by
 cases c with
 | true=>exact h1 rfl
 | false=>exact h2 rfl
theorem uZ {b:List Int}:∃h,ms b=some ⟨b,0,h⟩:=by
 obtain⟨s,h1,_⟩:=bO (f:=i9 b) (λ_ _=>True) b.length (s:=IntKind.i64.wrap (560017+(b.length:Int))) trivial (λj s hj _=>by
  have hx:b[j]? =some b[j]:=bB hj
  unfold i9
  rw[bC,hx,bt]
  exact⟨_,rfl,trivial⟩)
 unfold ms
 rw[h1]
 exact⟨s,rfl⟩
section
variable {b:List Int}(hl:b.length<=4096)
include hl
theorem eh {i h:Int}(hi:Cur i) (k:Int):∃r,cd ⟨b,i,h⟩ k=some r/\(0<=r.1/\(1<=k->r.1<k)/\Cur r.2.1):=by
 obtain⟨x,i',h',e,r⟩:=lh hl (h:=h) hi k
 exact⟨_,e,r⟩
theorem kG {i h:Int}(hi:Cur i) (k:Int):∃r,cY ⟨b,i,h⟩ k=some r/\Cur r.2.1:=by
 obtain⟨x,i',h',e,r⟩:=qY hl (h:=h) hi k
 exact⟨_,e,r⟩
theorem tl {i h:Int}(hi:Cur i) (k:Int):∃r,jm ⟨b,i,h⟩ k=some r/\Cur r.2.1:=by
 obtain⟨x,i',h',e,r⟩:=vh hl (h:=h) hi k
 exact⟨_,e,r⟩
theorem vj {i h:Int}(hi:Cur i):∃r,kv ⟨b,i,h⟩=some r/\Cur r.2.1:=by
 obtain⟨x,i',h',e,r⟩:=ud hl (h:=h) hi
 exact⟨_,e,r⟩
theorem oZ {i h:Int}(hi:Cur i){k m:Int}(h0: -10<=k) (h1:k<=m) (h2:m<=1000):∃r,ia ⟨b,i,h⟩ k m=some r/\(k<=r.1/\r.1<=m/\Cur r.2.1):=by
 unfold ia
 rw[wr' (z:=m-k) (by omega) (by omega),wr' (by omega) (by omega)]
 refine bqQ (eh hl hi (m-k+1)) λr ⟨a1,a2,a3⟩=>?_
 have a2:=a2 (by omega)
 exact⟨_,rfl,by dsimp only;rw[wr' (by omega) (by omega)];omega,by dsimp only;rw[wr' (by omega) (by omega)];omega,a3⟩
end
end Go.Proofs.Ytpcjbkgbnoocaaa
set_option linter.unusedVariables false
set_option linter.unusedSimpArgs false
namespace Go.Proofs.Ytpcjbkgbnoocaaa
open Go Go.Wk Go.Proofs
theorem qg (p:Sig):∃z,cq p=some z/\0<=z/\z<=16:=by
 cases hs:sigOk p with
 | true=>exact⟨_,eH hs,by have:=kJ hs;omega,(kJ hs).2⟩
 | false=>
  unfold cq
  rw[dj,hs]
  exact⟨0,rfl,by omega,by omega⟩
theorem rG (a b:Int):∃z,eJ a b=some z/\a<=z/\b<=z/\(z=a\/z=b):=by
 unfold eJ
 by_cases h:b<a
 · rw[decide_eq_true h,cond_true];exact⟨a,rfl,Int.le_refl _,by omega,.inl rfl⟩
 · rw[decide_eq_false h,cond_false];exact⟨b,rfl,by omega,Int.le_refl _,.inr rfl⟩
theorem tu (k:Int):∃z,gA k=some z:=by
 unfold gA
 cases k==2 <;> cases k==3 <;> cases k==7 <;> exact⟨_,rfl⟩
def SmC (c:Clause):Prop:=c.A.length<=20/\c.B.length<=20
section
variable {b:List Int}(hl:b.length<=4096)
include hl
theorem vd {i h:Int}(hi:Cur i):∃r,fW ⟨b,i,h⟩=some r/\(0<=r.1.Out/\r.1.Out<=3/\Cur r.2.1):=by
 unfold fW
 refine bqQ (kG hl hi 4) λx6 c1=>bqQ (P:=λq=>Cur q.1/\0<=q.2.2.2/\q.2.2.2<=3) (biQ (λ_=>bqQ (eh hl c1 2) λx8 ⟨_,_,c2⟩=>bqQ (eh hl c2 2) λx11 ⟨a1,a2,c3⟩=>?_) λ_=>⟨_,rfl,c1,by dsimp only;omega,by dsimp only;omega⟩) λq1 ⟨c4,d1,d2⟩=>bqQ (kG hl c4 20) λx15 c5=>bqQ (P:=λq=>Cur q.1/\0<=q.2.2/\q.2.2<=3) (biQ (λ_=>bqQ (oZ hl c5 (by omega) (by omega) (by omega)) λx17 ⟨a1,a2,c6⟩=>⟨_,rfl,c6,a1,a2⟩) λ_=>⟨_,rfl,c5,d1,d2⟩) λq2 ⟨c7,e1,e2⟩=>⟨_,rfl,e1,e2,c7⟩
 have a2:=a2 (by omega)
 exact⟨_,rfl,c3,by dsimp only;rw[wr' (by omega) (by omega)];omega,by dsimp only;rw[wr' (by omega) (by omega)];omega⟩
theorem ue {i h:Int}(hi:Cur i){n:Int}(n0:0<=n) (n1:n<=16):∃r,eK ⟨b,i,h⟩ n=some r/\(r.1.length<=16/\Cur r.2.1):=by
 obtain⟨k,rfl⟩:=dr n0
 have hr:rng (k:Int)=some ():=by unfold rng;rw[if_pos (by omega)]
 unfold eK
 rw[hr,bt,show vu ((k:Int)-0)=k by omega]
 obtain⟨s,h1,h2,h3⟩:=bO (f:=eb ⟨b,i,h⟩) (λj (s:List Int×Int×Int)=>s.1.length<=j/\Cur s.2.1) k (s:=([],i,h)) ⟨by simp,hi⟩ (λj s hj ⟨a1,a2⟩=>by
  obtain⟨x,e,c⟩:=kG hl (h:=s.2.2) a2 2
  unfold eb
  rw[e,bt,app1 (by omega) rfl]
  cases x.1 with
  | true=>exact⟨_,rfl,by simp;omega,c⟩
  | false=>exact⟨_,rfl,by dsimp only;omega,c⟩)
 dsimp only
 rw[h1]
 exact⟨_,rfl,by dsimp only;omega,h3⟩
theorem qL {i h:Int}(hi:Cur i) (p:Sig):∃r,iD ⟨b,i,h⟩ p=some r/\(r.1.A.length<=16/\r.1.B.length<=16/\Cur r.2.1):=by
 obtain⟨z,z1,z2,z3⟩:=qg p
 obtain⟨y,y1,y2,y3,y4⟩:=rG z 2
 unfold iD
 rw[z1,bt,y1,bt]
 refine bqQ (eh hl hi 7) λx11 ⟨_,_,c1⟩=>bqQ (ue hl c1 (by omega) (by omega)) λx15 ⟨l1,c2⟩=>?_
 obtain⟨w,hw⟩:=tu (IntKind.i64.wrap (1+x11.1))
 rw[hw,bt]
 exact bqQ (P:=λq=>Cur q.1/\q.2.2.length<=16) (biQ (λ_=>bqQ (ue hl c2 (by omega) (by omega)) λx22 ⟨l2,c3⟩=>⟨_,rfl,c3,l2⟩) λ_=>⟨_,rfl,c2,by simp⟩) λq ⟨c,l⟩=>⟨_,rfl,l1,l,c⟩
theorem qx {i h:Int}(hi:Cur i) (p:Sig):∃r,gc ⟨b,i,h⟩ p=some r/\(SmC r.1/\Cur r.2.1):=by
 unfold gc
 refine bqQ (qL hl hi p) λx8 ⟨l1,l2,c1⟩=>bqQ (kG hl c1 10) λx10 c2=>bqQ (P:=λq=>Cur q.1/\q.2.2.2.1.length<=20/\q.2.2.2.2.length<=20) (biQ (λ_=>bqQ (eh hl c2 3) λx12 ⟨_,_,c3⟩=>bqQ (P:=λq=>Cur q.1/\q.2.2.2.1.length<=20/\q.2.2.2.2.length<=20) (biQ (λ_=>bqQ (oZ hl c3 (by omega) (by omega) (by omega)) λx16 ⟨_,_,c4⟩=>⟨_,rfl,c4,by dsimp only;omega,by dsimp only;omega⟩) λ_=>bqQ (P:=λq=>Cur q.1/\q.2.2.1.length<=20/\q.2.2.2.length<=20) (biQ (λ_=>bqQ (tl hl c3 15) λx23 c4=>?_) λ_=>bqQ (P:=λq=>Cur q.1/\q.2.2.length<=20) (biQ (λ_=>bqQ (tl hl c3 15) λx32 c4=>?_) λ_=>⟨_,rfl,c3,by dsimp only;omega⟩) λq ⟨c,l⟩=>⟨_,rfl,c,by dsimp only;omega,l⟩) λq ⟨c,l,l'⟩=>⟨_,rfl,c,l,l'⟩) λq ⟨c,l,l'⟩=>⟨_,rfl,c,l,l'⟩) λ_=>⟨_,rfl,c2,by dsimp only;omega,by dsimp only;omega⟩) λq ⟨c,l,l'⟩=>⟨_,rfl,⟨l,l'⟩,c⟩
 · rw[app1 (by omega) rfl]
   exact⟨_,rfl,c4,by dsimp only;rw[vx];simp;omega,by dsimp only;omega⟩
 · rw[app1 (by omega) rfl]
   exact⟨_,rfl,c4,by dsimp only;rw[vx];simp;omega⟩
theorem r8 {i h:Int}(hi:Cur i) (p:Sig){most:Int}(m0:0<=most) (m1:most<=10):∃r,fM ⟨b,i,h⟩ p most=some r/\((∀c∈r.1,SmC c)/\Cur r.2.1):=by
 unfold fM
 rw[wr' (by omega) (by omega)]
 refine bqQ (eh hl hi (most+1)) λx13 ⟨a0,a1,c1⟩=>?_
 have a1:=a1 (by omega)
 obtain⟨o,w1,w2⟩:=cm (f:=ec ⟨b,i,h⟩ p) (λj (s:List Clause×Int×Int×Int)=>s.1.length<=j/\s.2.1=x13.1-(j:Int)/\0<=s.2.1/\Cur s.2.2.1/\∀c∈s.1,SmC c) (λ_=>False) (λs=>s.1.length<=20/\Cur s.2.2.1/\∀c∈s.1,SmC c) 11 (λj s ⟨q1,q2,q3,q4,q5⟩=>by
  unfold ec
  by_cases hlt:0<s.2.1
  · obtain⟨x,e,l1,l2,c⟩:=qL hl (h:=s.2.2.2) q4 p
    rw[decide_eq_true hlt,cond_true,e,bt,app1 (by omega) rfl,bt,wr' (by omega) (by omega)]
    refine⟨_,rfl,by omega,by dsimp only;rw[vx];simp;omega,by dsimp only;omega,by dsimp only;omega,c,λy hy=>?_⟩
    rcases vF.1 hy with hy | hy
    · exact q5 y hy
    · rw[vy.1 hy];exact⟨by omega,by omega⟩
  · rw[decide_eq_false hlt,cond_false]
    exact⟨_,rfl,by dsimp only;omega,q4,q5⟩) (2 ^ 64) 0 ([],x13.1,x13.2.1,x13.2.2) (by omega) ⟨by simp,by dsimp only;omega,a0,c1,λc hc=>by cases hc⟩ (by omega)
 match o,w2 with
 | .inr s,⟨l,c,hs⟩=>
  dsimp only
  rw[w1,bt,bD]
  refine bqQ (kG hl c 20) λx25 c2=>bqQ (P:=λq=>(∀c∈q.1,SmC c)/\Cur q.2.1) (biQ (λ_=>bqQ (qx hl c2 p) λx29 ⟨s1,c3⟩=>?_) λ_=>⟨_,rfl,hs,c2⟩) λq ⟨a,c⟩=>⟨_,rfl,a,c⟩
  rw[app1 (by omega) rfl]
  refine⟨_,rfl,λy hy=>?_,c3⟩
  rcases vF.1 hy with hy | hy
  · exact hs y hy
  · rw[vy.1 hy];exact s1
theorem te {i h:Int}(hi:Cur i) (n:Int){least:Int}(m0:0<=least) (m1:least<=10):∃r,ef ⟨b,i,h⟩ n least=some r/\(r.1.length<=20/\Cur r.2.1):=by
 unfold ef
 refine bqQ (eh hl hi 5) λx ⟨a0,a1,c1⟩=>?_
 have a1:=a1 (by omega)
 rw[wr' (by omega) (by omega)]
 obtain⟨o,w1,w2⟩:=cm (f:=dI ⟨b,i,h⟩ n) (λj (s:List Int×Int×Int×Int)=>s.1.length<=j/\s.2.1=least+x.1-(j:Int)/\0<=s.2.1/\Cur s.2.2.1) (λ_=>False) (λs=>s.1.length<=20/\Cur s.2.2.1) 16 (λj s ⟨q1,q2,q3,q4⟩=>by
  unfold dI
  by_cases hlt:0<s.2.1
  · obtain⟨y,e,_,_,c⟩:=eh hl (h:=s.2.2.2) q4 n
    rw[decide_eq_true hlt,cond_true,e,bt,app1 (by omega) rfl,bt,wr' (by omega) (by omega)]
    exact⟨_,rfl,by omega,by dsimp only;rw[vx];simp;omega,by dsimp only;omega,by dsimp only;omega,c⟩
  · rw[decide_eq_false hlt,cond_false]
    exact⟨_,rfl,by dsimp only;omega,q4⟩) (2 ^ 64) 0 ([],least+x.1,x.2.1,x.2.2) (by omega) ⟨by simp,by dsimp only;omega,by dsimp only;omega,c1⟩ (by omega)
 match o,w2 with
 | .inr s,⟨l,c⟩=>
  rw[w1]
  exact⟨_,rfl,l,c⟩
theorem ui {i h:Int}(hi:Cur i) (n:Int):∃r,jO ⟨b,i,h⟩ n=some r/\Cur r.2.1:=by
 obtain⟨y,y1,_⟩:=rG n 1
 unfold jO
 rw[y1,bt]
 refine bqQ (te hl hi y (by omega) (by omega)) λx10 ⟨l1,c1⟩=>bqQ (te hl c1 y (by omega) (by omega)) λx13 ⟨l2,c2⟩=>bqQ (kG hl c2 15) λx16 c3=>bqQ (P:=λq=>Cur q.1) (biQ (λ_=>bqQ (eh hl c3 4) λx18 ⟨_,_,c4⟩=>bqQ (P:=λq=>Cur q.1) (biQ (λ_=>⟨_,rfl,c4⟩) λ_=>bqQ (P:=λq=>Cur q.1) (biQ (λ_=>bqQ (tl hl c4 y) λx29 c5=>?_) λ_=>bqQ (P:=λq=>Cur q.1) (biQ (λ_=>bqQ (vj hl c4) λx38 c5=>?_) λ_=>bqQ (P:=λq=>Cur q.1) (biQ (λ_=>bqQ (eh hl c4 2) λx45 ⟨a0,a1,c5⟩=>?_) λ_=>⟨_,rfl,c4⟩) λq c=>⟨_,rfl,c⟩) λq c=>⟨_,rfl,c⟩) λq c=>⟨_,rfl,c⟩) λq c=>⟨_,rfl,c⟩) λ_=>⟨_,rfl,c3⟩) λq c=>⟨_,rfl,c⟩
 · rw[app1 (by omega) rfl];exact⟨_,rfl,c5⟩
 · rw[app1 (by omega) rfl];exact⟨_,rfl,c5⟩
 · have a1:=a1 (by omega)
   obtain⟨m,hm⟩:=dr a0
   rw[wr' (by omega) (by omega),hm,show(600+(m:Int))=((600+m:Nat):Int) by omega,cO (by omega) rfl]
   exact⟨_,rfl,c5⟩
end
end Go.Proofs.Ytpcjbkgbnoocaaa
set_option linter.unusedVariables false
set_option linter.unusedSimpArgs false
namespace Go.Proofs.Ytpcjbkgbnoocaaa
open Go Go.Wk Go.Proofs
def inpF (r:Rival) (outs:List Int):Nat->Int×List Int
 | 0=>(0,[inAt r 0])
 | j+1=>(tab r.Next (inpF r outs j).1 (outs.getD j 0),(inpF r outs j).2++[inAt r (tab r.Next (inpF r outs j).1 (outs.getD j 0))])
theorem kI (r:Rival) (outs:List Int):∀j,(inpF r outs j).2.length=j+1
 | 0=>rfl
 | j+1=>by
  show((inpF r outs j).2++[_]).length=_
  rw[vx,kI r outs j];rfl
theorem oE (r:Rival) (outs:List Int){k:Nat}:∀j,j<=k->inpF r (outs.take k) j=inpF r outs j
 | 0,_=>rfl
 | j+1,h=>by
  have e:(outs.take k).getD j 0=outs.getD j 0:=by
   rw[List.getD_eq_getElem?_getD,List.getD_eq_getElem?_getD,List.getElem?_take,if_pos (by omega)]
  show(_,_)=(_,_)
  rw[oE r outs j (by omega),e]
theorem qN (r:Rival) (outs:List Int) (j:Nat):∀d,(inpF r outs (j+d)).2.take (j+1)=(inpF r outs j).2
 | 0=>by
  show List.take (j+1) (inpF r outs j).2=(inpF r outs j).2
  rw[List.take_of_length_le (by rw[kI];omega)]
 | d+1=>by
  show((inpF r outs (j+d)).2++[_]).take (j+1)=_
  rw[List.take_append_of_le_length (by rw[kI];omega),qN r outs j d]
def InpOk (p:Sig) (r:Rival) (outs:List Int):Prop:=sigOk p=true/\rivalOk p r=true/\outs.length<=600/\∀o∈outs,0<=o/\o<pw p.Out
theorem oG {p:Sig}{r:Rival}{outs:List Int}(h:InpOk p r outs):dP p r outs=some (inpF r outs outs.length).2/\ey p r outs=some (inpF r outs outs.length).2:=by
 obtain⟨hs,hr1,hl,ho⟩:=h
 obtain⟨h1,h2⟩:=cM hs
 have hp:=jp p.Out
 obtain⟨i1,i2,i3,i4,i5⟩:=mB hr1
 have hall:outs.all (inR (pw p.Out))=true:=by
  rw[List.all_eq_true]
  exact λo hm=>ej.2 (ho o hm)
 have hx0:=(rL hr1 (q:=0) (by omega) (by omega)).1
 have hb:fE=dx:=rfl
 obtain⟨st,h3,h4⟩:=bO (f:=dx r outs) (λj (t:Int×List Int)=>t=inpF r outs j/\0<=t.1/\t.1<r.In.length) outs.length (s:=(0,[inAt r 0])) ⟨rfl,by omega,by dsimp only;omega⟩ (λj t hj ⟨j1,j2,j3⟩=>by
  have hy:outs[j]? =some outs[j]:=bB hj
  have hgd:outs.getD j 0=outs[j]:=by rw[List.getD_eq_getElem?_getD,hy];rfl
  have ho':=ho _ (it hy)
  obtain⟨row,k1,k2,k3,k4⟩:=oY (n:=(r.In.length:Int)) (l:=pw p.Out) (λrow hrow=>i5 row hrow) j2 (by omega) ho'.1 ho'.2
  have k5:=(rL hr1 k3 k4).1
  have hlen:t.2.length=j+1:=by rw[j1,kI]
  refine⟨(tab r.Next t.1 outs[j],t.2++[inAt r (tab r.Next t.1 outs[j])]),?_,?_,k3,k4⟩
  · unfold dx
    rw[bC,hy,bt,k1,bt,k2,bt,k5,bt,app1 (by omega) rfl,bt]
  · show _=(_,_)
    rw[← j1,hgd])
 unfold dP ey
 rw[kw p r (by omega),bt,iU,bt]
 simp only[hs,hr1,iv p r hs,cP,ck h2,(fi h2).1,(fi h2).2,fj,eV outs (n:=pw p.Out) (by omega) (by omega),hall,bt,Bool.true_and,Bool.and_self,vw,cond_false,decide_eq_false (show ¬(600:Int)<(outs.length:Int) by omega)]
 rw[hx0,bt,bt,hb,h3,bt,bD,h4.1]
 exact⟨rfl,rfl⟩
theorem sg {p:Sig}{r:Rival}{outs:List Int}(hr:r.In.length<=1048576) (h:¬InpOk p r outs):dP p r outs=some []/\ey p r outs=some []:=by
 unfold dP ey
 rw[kw p r hr,bt,iU,bt]
 cases hs:sigOk p with
 | false=>exact⟨by simp,by simp⟩
 | true=>
  obtain⟨h1,h2⟩:=cM hs
  have hp:=jp p.Out
  simp only[iv p r hs,cP,ck h2,(fi h2).1,(fi h2).2,fj,eV outs (n:=pw p.Out) (by omega) (by omega),bt,Bool.true_and]
  cases hr1:rivalOk p r with
  | false=>exact⟨by simp,by simp⟩
  | true=>
   by_cases hl:600<(outs.length:Int)
   · exact⟨by simp[hl],by simp[hl]⟩
   · cases ho:outs.all (inR (pw p.Out)) with
     | false=>exact⟨by simp[hl],by simp[hl]⟩
     | true=>
      exfalso
      rw[List.all_eq_true]at ho
      exact h ⟨hs,hr1,by omega,λo hm=>ej.1 (ho o hm)⟩
theorem pg (p:Sig) (r:Rival):iw p r=some (sigOk p&&rivalOk p r):=by
 unfold iw
 rw[iU,bt]
 cases hs:sigOk p with
 | false=>rfl
 | true=>rw[cond_true,iv p r hs];rfl
theorem sV {p:Sig}{r:Rival}(hs:sigOk p=true) (hr:rivalOk p r=true):gR p r r=some true:=by
 have he:bK r.Next r.Next=some true:=by
  unfold bK
  rw[bne_self_eq_false,cond_false,oX (f:=bG r.Next r.Next) (r:=false) (λx y=>decide (x=y)) rfl (λi x y hx hy=>by
   unfold bG
   have e:x=y:=Option.some.inj (hx.symm.trans hy)
   subst e
   rw[bC,hx,bt,bt,dz,bt]
   simp),kl rfl,decide_eq_true rfl]
  rfl
 unfold gR
 rw[iU,hs,bt,vw,cond_false,iv p r hs,hr,dz,decide_eq_true rfl,he]
 rfl
end Go.Proofs.Ytpcjbkgbnoocaaa
set_option linter.unusedVariables false
set_option linter.unusedSimpArgs false
namespace Go.Proofs.Ytpcjbkgbnoocaaa
open Go Go.Wk Go.Proofs
theorem vp {z:Int}(h0:0<=z) (h1:z<18446744073709551616):IntKind.u64.wrap z=z:=by
 simp[IntKind.wrap,IntKind.bits,IntKind.signed]
 omega
theorem sN {d:dice}(hb:∀x∈d.b,U8 x) (hl:d.b.length<=4096) (i0:0<=d.i) (i1:d.i<=4096){k:Int}(hk:1<=k):∃x i h,fP d k=some (x,i,h)/\0<=x/\x<k/\0<=i/\i<=4096:=by
 unfold fP
 have hnz:nz k=some ():=by unfold nz;rw[if_neg (by omega)]
 generalize hA:(BitVec.ofInt (IntKind.bits IntKind.u64) (Int.fdiv (IntKind.u64.wrap (IntKind.u64.wrap (d.h * 6364136223846793005)+1442695040888963407)) (2 ^ (min (vu 33) (IntKind.bits IntKind.u64)))))=A
 have hy:(BitVec.toNat (A &&& BitVec.ofInt (IntKind.bits IntKind.u64) 16777215))<=16777215:=by
  rw[BitVec.toNat_and]
  refine Nat.le_trans Nat.and_le_right ?_
  decide
 generalize(BitVec.toNat (A &&& BitVec.ofInt (IntKind.bits IntKind.u64) 16777215))=y at hy
 rw[vp (by omega) (by omega),wr' (z:=(y:Int)) (by omega) (by omega)]
 by_cases hlt:d.i<(d.b.length:Int)
 · obtain⟨x,hx,hm⟩:=dF (xs:=d.b) i0 hlt
   have hx8:=hb x hm
   unfold U8 at hx8
   simp only[hlt,decide_true,cond_true,hx,bt,hnz]
   rw[wr' (z:=x) (by omega) (by omega),wr' (z:=(y:Int)+x) (by omega) (by omega),wr' (by omega) (by omega),Int.tmod_eq_emod_of_nonneg (by omega)]
   exact⟨_,_,_,rfl,Int.emod_nonneg _ (by omega),Int.emod_lt_of_pos _ (by omega),by omega,by omega⟩
 · simp only[hlt,decide_false,cond_false,bt,hnz]
   rw[Int.tmod_eq_emod_of_nonneg (by omega)]
   exact⟨_,_,_,rfl,Int.emod_nonneg _ (by omega),Int.emod_lt_of_pos _ (by omega),by omega,by omega⟩
theorem tE (b:List Int) (k:Int):∃h,nW b k=some ⟨b,0,h⟩:=by
 unfold nW
 obtain⟨s,h1,_⟩:=bO (f:=jL b) (λ_ _=>True) b.length (s:=(IntKind.u64.wrap ((IntKind.u64.wrap (k * 7919))+(IntKind.u64.wrap (b.length:Int))))) trivial (λj s hj _=>by
  have hx:b[j]? =some b[j]:=by simp[hj]
  unfold jL
  rw[bC,hx]
  exact⟨_,rfl,trivial⟩)
 rw[h1]
 exact⟨s,rfl⟩
end Go.Proofs.Ytpcjbkgbnoocaaa
set_option linter.unusedVariables false
set_option linter.unusedSimpArgs false
namespace Go.Proofs.Ytpcjbkgbnoocaaa
open Go Go.Wk Go.Proofs
theorem uB {c:Clause}(h:SmC c):Clause.bd c:=⟨trivial,⟨by have:=h.1;omega,λ_ _=>trivial⟩,⟨by have:=h.2;omega,λ_ _=>trivial⟩⟩
theorem tW {z:Int}(h0:0<=z) (h1:z<=2):∃c:Nat,cG z=some (c:Int)/\1<=c/\c<=4:=by
 rcases(by omega:z=0\/z=1\/z=2) with e | e | e <;> subst e
 · exact⟨1,by decide,by omega,by omega⟩
 · exact⟨2,by rw[ck (.inl rfl)];rfl,by omega,by omega⟩
 · exact⟨4,by rw[ck (.inr rfl)];rfl,by omega,by omega⟩
theorem t5 (a:Int) (h0:0<=a):∃z,jf a 2=some z/\0<=z/\z<=2:=by
 unfold jf
 by_cases h:a<2
 · rw[decide_eq_true h,cond_true];exact⟨a,rfl,h0,by omega⟩
 · rw[decide_eq_false h,cond_false];exact⟨2,rfl,by omega,by omega⟩
def rQ:(Rival×Int×Int)⊕(Int×Int)->Prop
 | .inl r=>r.1.In.length<=300/\Cur r.2.1
 | .inr s=>Cur s.1
section
variable {b:List Int}(hl:b.length<=4096)
include hl
theorem vl {i h:Int}(hi:Cur i){p:Sig}(hp:0<=p.Out):∃r,jV ⟨b,i,h⟩ p=some r/\(r.1.In.length<=300/\Cur r.2.1):=by
 obtain⟨z,z1,z2,z3⟩:=t5 p.Out hp
 obtain⟨c,c1,c2,c3⟩:=tW z2 z3
 unfold jV
 refine bqQ (kG hl hi 2) λx13 d1=>bqQ (P:=rQ) (biQ (λ_=>bqQ (r8 hl d1 p (by omega) (by omega)) λx18 ⟨hcs,d2⟩=>?_) λ_=>⟨_,rfl,d1⟩) λq1 hq1=>?_
 · rcases oc p (cs:=x18.1) (λc hc=>uB (hcs c hc)) with ⟨e,_⟩ | ⟨N,m,k,F,In,Nx,Q,hC,hN,_,_,_,e,_⟩
   · rw[e];exact⟨_,rfl,d2⟩
   · rw[e]
     have h1:=hC.inl
     have h2:=hC.nm.len
     exact⟨_,rfl,by dsimp only;omega,d2⟩
 · match q1,hq1 with
   | .inl r,hq=>exact⟨r,rfl,hq⟩
   | .inr s,d3=>
    show ∃r,br _ _=some r/\_
    refine bqQ (eh hl d3 4) λx26 ⟨a0,a1,d4⟩=>?_
    have a1:=a1 (by omega)
    obtain⟨y,hy⟩:=dr a0
    have hr:rng (1+x26.1)=some ():=by unfold rng;rw[if_pos (by omega)]
    rw[wr' (z:=1+x26.1) (by omega) (by omega),hr,bt,show vu (1+x26.1-0)=y+1 by omega]
    obtain⟨s,k1,k2,k3,k4,k5⟩:=bO (f:=fG ⟨b,i,h⟩ p x26) (λj (s:Int×Int×List Int×List (List Int))=>Cur s.1/\s.2.2.1.length=j/\s.2.2.2.length=j/\∀row∈s.2.2.2,1<=row.length/\row.length<=10) (y+1) (s:=(x26.2.1,x26.2.2,[],[])) ⟨d4,rfl,rfl,λrow hr=>by cases hr⟩ (λj s hj ⟨b1,b2,b3,b4⟩=>by
     obtain⟨o,w1,w2⟩:=cm (f:=fH ⟨b,i,h⟩ p x26) (λq (t:List Int×Int×Int×Int)=>t.1.length=q/\t.2.1=(q:Int)/\q<=c/\Cur t.2.2.1) (λ_=>False) (λt=>t.1.length=c/\Cur t.2.2.1) c (λq t ⟨g1,g2,g3,g4⟩=>by
      unfold fH
      rw[z1,bt,c1,bt]
      by_cases hlt:q<c
      · obtain⟨x,e,_,_,d⟩:=eh hl (h:=t.2.2.2) g4 (IntKind.i64.wrap (1+x26.1))
        rw[decide_eq_true (show t.2.1<(c:Int) by omega),cond_true,e,bt,app1 (by omega) rfl,bt,wr' (by omega) (by omega)]
        exact⟨_,rfl,hlt,by dsimp only;rw[vx,g1];rfl,by dsimp only;omega,by omega,d⟩
      · rw[decide_eq_false (show ¬t.2.1<(c:Int) by omega),cond_false]
        exact⟨_,rfl,by dsimp only;omega,g4⟩) (2 ^ 64) 0 ([],0,s.1,s.2.1) (by omega) ⟨rfl,rfl,Nat.zero_le _,b1⟩ (by omega)
     match o,w2 with
     | .inr t,⟨t1,t2⟩=>
      unfold fG
      rw[w1,bt,bD]
      obtain⟨x,e,_,_,d⟩:=eh hl (h:=t.2.2.2) t2 2
      rw[e,bt,app1 (by omega) rfl,bt,app1 (by omega) rfl]
      refine⟨_,rfl,d,by dsimp only;rw[vx,b2];rfl,by dsimp only;rw[vx,b3];rfl,λrow hr=>?_⟩
      rcases vF.1 hr with hr | hr
      · exact b4 row hr
      · rw[vy.1 hr];exact⟨by omega,by omega⟩)
    rw[k1,bt,bD]
    have hIn:∀v:Int,∃w,idx s.2.2.1 0=some w/\setI s.2.2.1 0 v=some (s.2.2.1.set 0 v):=λv=>by
     obtain⟨w,hw,_⟩:=dF (xs:=s.2.2.1) (z:=0) (by omega) (by omega)
     exact⟨w,hw,mF (i:=0) (by omega)⟩
    obtain⟨row,hrow,hrm⟩:=dF (xs:=s.2.2.2) (z:=0) (by omega) (by omega)
    obtain⟨q1,q2⟩:=k5 row hrm
    have hNx:∀v:List Int,setI s.2.2.2 0 v=some (s.2.2.2.set 0 v):=λv=>mF (i:=0) (by omega)
    refine bqQ (kG hl k2 12) λx62 d5=>bqQ (P:=λq=>Cur q.1/\q.2.2.1.length<=300) (biQ (λ_=>bqQ (eh hl d5 3) λx64 ⟨_,_,d6⟩=>bqQ (P:=λq=>Cur q.1/\q.2.2.1.length<=300) (biQ (λ_=>bqQ (oZ hl d6 (by omega) (by omega) (by omega)) λx70 ⟨_,_,d7⟩=>?_) λ_=>bqQ (P:=λq=>Cur q.1) (biQ (λ_=>?_) λ_=>bqQ (P:=λq=>Cur q.1) (biQ (λ_=>?_) λ_=>⟨_,rfl,d6⟩) λq d=>⟨_,rfl,d⟩) λq d=>⟨_,rfl,d,by dsimp only;omega⟩) λq ⟨d,l⟩=>⟨_,rfl,d,l⟩) λ_=>⟨_,rfl,d5,by dsimp only;omega⟩) λq ⟨d,l⟩=>⟨_,rfl,l,d⟩
    · obtain⟨w,w1,w2⟩:=hIn x70.1
      rw[w1,bt,w2]
      exact⟨_,rfl,d7,by dsimp only;rw[List.length_set];omega⟩
    · rw[hrow,bt,app1 (by omega) rfl,bt,bt,hNx]
      exact⟨_,rfl,d6⟩
    · rw[hrow,bt]
      refine bqQ (oZ hl d6 (by omega) (by omega) (by omega)) λx90 ⟨_,_,d7⟩=>?_
      obtain⟨w,w1,_⟩:=dF (xs:=row) (z:=0) (by omega) (by omega)
      have w2:setI row 0 x90.1=some (row.set 0 x90.1):=mF (i:=0) (by omega)
      rw[w1,bt,w2,bt,hNx]
      exact⟨_,rfl,d7⟩
theorem pQ:∃r,d9 b=some r/\r.2.1.In.length<=300:=by
 obtain⟨h,hn⟩:=uZ (b:=b)
 unfold d9
 rw[hn,bt]
 exact bqQ (vd hl ⟨by omega,by omega⟩) λx11 ⟨a0,_,c1⟩=>bqQ (vl hl c1 a0) λx14 ⟨l,c2⟩=>bqQ (ui hl c2 2) λx18 _=>⟨_,rfl,l⟩
end
theorem likeR (x:List Int):gu x x=some true:=by
 unfold gu
 rw[bne_self_eq_false,cond_false,cU (f:=eS x x) (r:=false) (λ_=>true) (xs:=x) rfl (λi y hy=>by
  unfold eS
  rw[bC,hy,bt,bt,bne_self_eq_false];rfl)]
 simp
 rfl
theorem FnRivals_law {p0:List Int}(ok0:okS U8 p0):j4 p0=some true:=by
 unfold j4 rF
 rw[bt]
 by_cases hl:p0.length<=4096
 · rw[decide_eq_false (by omega),cond_false]
   obtain⟨⟨p,r,outs⟩,hr,hIn⟩:=pQ hl
   dsimp only at hIn
   rw[hr,bt]
   dsimp only
   have hR:iw p r=some (sigOk p&&rivalOk p r):=pg p r
   have hS:gE p r=some (sigOk p&&rivalOk p r):=kw p r (by omega)
   by_cases hok:InpOk p r outs
   · obtain⟨e1,e2⟩:=oG hok
     have hb:∀x∈p0,U8 x:=ok0.1
     rw[e1,e2]
     simp only[bt,likeR,vw,cond_false,hR,hS,bne_self_eq_false]
     have hlen:=kI r outs outs.length
     rw[show(((inpF r outs outs.length).2.length:Int)==0)=false from by rw[beq_eq_false_iff_ne];omega,cond_false]
     obtain⟨hh,hroll⟩:=tE p0 616
     have h600:=hok.2.2.1
     rw[hroll,bt,wr' (by omega) (by omega)]
     obtain⟨x,i',h',d1,d2,d3,_⟩:=sN (d:=⟨p0,0,hh⟩) hb hl (Int.le_refl 0) (by show(0:Int)<=4096;omega) (k:=(outs.length:Int)+1) (by omega)
     rw[d1,bt]
     dsimp only
     obtain⟨k,rfl⟩:=dr d2
     have s1:subS outs 0 (k:Int)=some (outs.take k):=by
      unfold subS
      rw[if_pos ⟨by omega,by omega,by omega⟩]
      simp
     have s2:subS (inpF r outs outs.length).2 0 (IntKind.i64.wrap ((k:Int)+1))=some ((inpF r outs outs.length).2.take (k+1)):=by
      rw[wr' (by omega) (by omega),show(k:Int)+1=((k+1:Nat):Int) by omega]
      unfold subS
      rw[if_pos ⟨by omega,by omega,by omega⟩]
      simp
     have hok':InpOk p r (outs.take k):=⟨hok.1,hok.2.1,by rw[vB];omega,λo ho=>hok.2.2.2 o (List.mem_of_mem_take ho)⟩
     have e3:=(oG hok').1
     rw[vB,Nat.min_eq_left (by omega),oE r outs k (Nat.le_refl _)]at e3
     have e4:=qN r outs k (outs.length-k)
     rw[show k+(outs.length-k)=outs.length by omega]at e4
     rw[s1,bt,s2,bt,e3,bt,e4,likeR,bt,cond_true,sV hok.1 hok.2.1]
     rfl
   · obtain⟨e1,e2⟩:=sg (by omega) hok
     rw[e1,e2]
     simp only[bt,likeR,vw,cond_false,hR,hS,bne_self_eq_false]
     rfl
 · rw[decide_eq_true (by omega),cond_true]
end Go.Proofs.Ytpcjbkgbnoocaaa
