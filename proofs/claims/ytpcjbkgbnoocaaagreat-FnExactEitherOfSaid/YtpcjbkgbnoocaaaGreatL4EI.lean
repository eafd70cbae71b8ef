/- A sorted row without equal neighbours. Plain law. -/
import Derived.Test.YtpcjbkgbnoocaaaGreatL0EI
import Derived.Test.YtpcjbkgbnoocaaaGreatL3EI
import Derived.Test.YtpcjbkgbnoocaaaGreatL1EI
set_option linter.unusedVariables false
set_option linter.unusedSimpArgs false
open Option renaming bind → ds, bind_some → gs
open List renaming getElem?_eq_getElem → hV, getElem?_eq_some_iff → it, replicate → sh, mem_of_getElem? → t0, getElem?_replicate → vG, length_append → vK, mem_singleton → vL, length_take → vO, length_nil → vP, mem_append → vS, take_add_one → vT, length_map → vV
open Bool renaming and_eq_true → vI, not_true → vJ
namespace Go.Proofs.YtpcjbkgbnoocaaaGreat
open Go Go.Wk Go.Proofs
theorem mI {zs:List Int}{j:Nat}(h:j<zs.length):zs.toArray[j]! =zs[j]:=by
 rw[getElem!_pos _ j (by simpa using h)]
 simp
theorem mP {zs:List Int}(h:zs.Pairwise (·<=·)):∀m:Nat,m<=zs.length->Asc (Lib.compactUpTo zs.toArray m)/\∀z,z∈Lib.compactUpTo zs.toArray m↔∃j:Nat,j<m/\zs[j]? =some z
 | 0,_=>⟨by simp[Lib.compactUpTo,Asc],λz=>by simp[Lib.compactUpTo]⟩
 | m+1,hm=>by
  obtain⟨a1,a2⟩:=mP h m (by omega)
  have hmono:∀(i j:Nat) (hi:i<zs.length) (hj:j<zs.length),i<=j->zs[i]<=zs[j]:=λi j hi hj hij=>by
   rcases Nat.lt_or_ge i j with c | c
   · exact(List.pairwise_iff_getElem.1 h) i j hi hj c
   · have:i=j:=by omega
     subst this
     exact Int.le_refl _
  rw[Lib.compactUpTo_succ,mI (show m<zs.length by omega)]
  have e1:zs[m]? =some zs[m]:=hV (by omega)
  cases hk:Lib.keeps zs.toArray m with
  | true=>
   rw[if_pos rfl]
   refine⟨List.pairwise_append.2 ⟨a1,List.pairwise_singleton ..,λx hx y hy=>?_⟩,λz=>?_⟩
   · rw[vL.1 hy]
     obtain⟨j,j1,j2⟩:=(a2 x).1 hx
     rw[hV (show j<zs.length by omega)]at j2
     have hx:=Option.some.inj j2
     have hne:zs[m]≠zs[m-1]'(by omega):=λe=>by
      unfold Lib.keeps at hk
      rw[decide_eq_true_eq,mI (show m<zs.length by omega),mI (show m-1<zs.length by omega)]at hk
      rcases hk with hk | hk
      · omega
      · exact hk e
     have l1:=hmono j (m-1) (by omega) (by omega) (by omega)
     have l2:=hmono (m-1) m (by omega) (by omega) (by omega)
     omega
   · rw[vS,vL,a2]
     constructor
     · rintro(⟨j,j1,j2⟩ | rfl)
       · exact⟨j,by omega,j2⟩
       · exact⟨m,by omega,e1⟩
     · rintro⟨j,j1,j2⟩
       by_cases e:j=m
       · subst e
         rw[e1]at j2
         exact .inr (Option.some.inj j2).symm
       · exact .inl ⟨j,by omega,j2⟩
  | false=>
   rw[if_neg (by simp),List.append_nil]
   refine⟨a1,λz=>?_⟩
   rw[a2]
   constructor
   · rintro⟨j,j1,j2⟩
     exact⟨j,by omega,j2⟩
   · rintro⟨j,j1,j2⟩
     by_cases e:j=m
     · subst e
       have hk':¬(j=0\/zs.toArray[j]!≠zs.toArray[j-1]!):=λhh=>by
        unfold Lib.keeps at hk
        rw[decide_eq_true hh]at hk
        cases hk
       rw[mI (show j<zs.length by omega),mI (show j-1<zs.length by omega)]at hk'
       have h0:j≠0:=λe=>hk' (.inl e)
       have h1:zs[j]=zs[j-1]'(by omega):=Classical.byContradiction λe=>hk' (.inr e)
       refine⟨j-1,by omega,?_⟩
       rw[hV (show j-1<zs.length by omega),← h1,← e1,j2]
     · exact⟨j,by omega,j2⟩
theorem rE {zs:List Int}(h:zs.Pairwise (·<=·)):Asc (Lib.compact zs)/\∀z,z∈Lib.compact zs↔z∈zs:=by
 obtain⟨a,b⟩:=mP h zs.length (Nat.le_refl _)
 refine⟨a,λz=>?_⟩
 unfold Lib.compact
 rw[b]
 constructor
 · rintro⟨j,_,h⟩;exact t0 h
 · intro hz
   obtain⟨j,hj⟩:=List.getElem?_of_mem hz
   exact⟨j,(it.1 hj).1,hj⟩
end Go.Proofs.YtpcjbkgbnoocaaaGreat
set_option linter.unusedVariables false
set_option linter.unusedSimpArgs false
namespace Go.Proofs.YtpcjbkgbnoocaaaGreat
open Go Go.Wk Go.Proofs
theorem kT {p:Sig}(hs:sigOk p=true){x o:Int}(x0:0<=x) (x1:x<pw p.In) (o0:0<=o) (o1:o<pw p.Out):gH p x o=some (o * pw p.In+x):=by
 have pI:=kQ p.In
 have pO:=kQ p.Out
 obtain⟨hi,ho⟩:=dE hs
 have hmul:0<=o * pw p.In:=Int.mul_nonneg o0 (by omega)
 have hmul2:o * pw p.In<=4 * 4:=Int.mul_le_mul (by omega) (by omega) (by omega) (by omega)
 unfold gH
 simp only[eE,hs,gs,vJ,cond_false,ek hi,ek ho]
 rw[wr' (z:=pw p.In-1) (by omega) (by omega),wr' (z:=pw p.Out-1) (by omega) (by omega),wr' (z:=o * pw p.In) (by omega) (by omega),wr' (by omega) (by omega)]
 simp only[cV,sy,gs,gk.2 ⟨x0,x1⟩,gk.2 ⟨o0,o1⟩,vJ,cond_false]
end Go.Proofs.YtpcjbkgbnoocaaaGreat
set_option linter.unusedVariables false
set_option linter.unusedSimpArgs false
namespace Go.Proofs.YtpcjbkgbnoocaaaGreat
open Go Go.Wk Go.Proofs
theorem jS {p:Sig}(hs:sigOk p=true):fG p=some (pw p.In):=by
 obtain⟨hi,_⟩:=dE hs
 unfold fG
 rw[(nX hi).1,gs,(nX hi).2]
end Go.Proofs.YtpcjbkgbnoocaaaGreat
set_option linter.unusedVariables false
set_option linter.unusedSimpArgs false
namespace Go.Proofs.YtpcjbkgbnoocaaaGreat
open Go Go.Wk Go.Proofs
theorem mn:∀{xs ys:List Int},xs.Nodup->(∀x∈xs,x∈ys)->xs.length<=ys.length
 | [],_,_,_=>Nat.zero_le _
 | x::xs,ys,hn,h=>by
  obtain⟨h1,h2⟩:=List.nodup_cons.1 hn
  have hx:=h x (List.mem_cons_self ..)
  have:=mn (ys:=ys.erase x) h2 λz hz=>(List.mem_erase_of_ne (λe=>h1 (by rw[← e];exact hz))).2 (h z (List.mem_cons_of_mem _ hz))
  have h3:=List.length_pos_of_mem hx
  rw[List.length_erase_of_mem hx]at this
  simp only[List.length_cons]
  omega
theorem uT {m q q' i i':Nat}(hi:i<m) (hi':i'<m) (h:q * m+i=q' * m+i'):q=q'/\i=i':=by
 have hlt:∀{a b:Nat},a<b->a * m+m<=b * m:=λ{a b} h=>by
  have:=Nat.mul_le_mul_right m (show a+1<=b by omega)
  rwa [Nat.add_mul,Nat.one_mul]at this
 by_cases h1:q<q'
 · have:=hlt h1;omega
 · by_cases h2:q'<q
   · have:=hlt h2;omega
   · have:q=q':=by omega
     subst this
     exact⟨rfl,by omega⟩
theorem px {n m q i:Nat}(hq:q<n) (hi:i<m):q * m+i<n * m:=by
 have:=Nat.mul_le_mul_right m (show q+1<=n by omega)
 rw[Nat.add_mul,Nat.one_mul]at this
 omega
def SuccR (d:Det) (m k q i:Nat) (r:List Int):Prop:=Asc r/\∀z,z∈r↔∃o:Nat,o<k/\z=tab d.Next q ((o * m+i:Nat):Int)
theorem SuccR.uniq {d:Det}{m k q i:Nat}{r r':List Int}(h:SuccR d m k q i r) (h':SuccR d m k q i r'):r=r':=qe h.1 h'.1 λz=>by rw[h.2,h'.2]
def rowQ (n m q:Nat):List Int:=(List.range m).map λi=>((n+q * m+i:Nat):Int)
structure ConA (d:Det) (n m k:Nat) (A:Arena):Prop where
 ol:A.Owner=sh n 1++sh (n * m) 0
 nl:A.Next.length=n+n * m
 r1:∀q:Nat,q<n->A.Next[q]? =some (rowQ n m q)
 r0:∀q i:Nat,q<n->i<m->∃r,A.Next[n+(q * m+i)]? =some r/\SuccR d m k q i r
section
variable {d:Det}{n m k:Nat}(hn:n<=48) (hn1:1<=n) (hm1:1<=m) (hm:m<=4) (hk1:1<=k) (hk:k<=4) (hd:d.Next.length=n) (hD:∀row∈d.Next,RowIn (n:Int) ((m * k:Nat):Int) row)
include hn hn1 hm1 hm hk1 hk hd hD
omit hn hn1 hk1 hk in
theorem mC {q i o:Nat}(hq:q<n) (hi:i<m) (ho:o<k):∃row,idx d.Next (q:Int)=some row/\idx row ((o * m+i:Nat):Int)=some (tab d.Next q ((o * m+i:Nat):Int))/\0<=tab d.Next q ((o * m+i:Nat):Int)/\tab d.Next q ((o * m+i:Nat):Int)<(n:Int):=by
 have h1:=px (n:=k) ho hi
 have h2:k * m=m * k:=Nat.mul_comm _ _
 exact rP hD (by omega) (by omega) (by omega) (by omega)
theorem vo {A:Arena}(h:ConA d n m k A):arenaOk A=true:=by
 have hnm:n * m<=48 * 4:=Nat.mul_le_mul hn hm
 have hol:A.Owner.length=n+n * m:=by rw[h.ol];simp
 have hnl:=h.nl
 unfold arenaOk
 simp only[vI,decide_eq_true_eq,beq_iff_eq]
 refine⟨⟨⟨by omega,by omega⟩,by omega⟩,?_⟩
 rw[List.all_eq_true]
 rintro⟨row,j⟩ hx
 have hx:=List.mem_zipIdx_iff_getElem?.1 hx
 dsimp only at hx ⊢
 have hlt:=(it.1 hx).1
 unfold vertOk
 by_cases hj:j<n
 · have ho:A.Owner[j]? =some 1:=by
    rw[h.ol,List.getElem?_append_left (by simpa using hj),vG,if_pos hj]
   rw[h.r1 j hj]at hx
   cases hx
   have hl:(rowQ n m j).length=m:=by unfold rowQ;rw[vV,List.length_range]
   have hs:setOk (A.Owner.length:Int) (rowQ n m j)=true:=by
    refine eh.2 ⟨λx hx=>?_,?_⟩
    · unfold rowQ at hx
      obtain⟨i,hi,e⟩:=List.mem_map.1 hx
      have:=List.mem_range.1 hi
      have:=px (n:=n) (m:=m) hj this
      omega
    · unfold rowQ
      refine List.pairwise_map.2 (List.Pairwise.imp (λ{a b} hab=>?_) List.pairwise_lt_range)
      omega
   rw[ho,hs,hl]
   simp only[Bool.and_true,vI,decide_eq_true_eq]
   exact⟨⟨by decide,by omega⟩,by omega⟩
 · have hjm:j-n<n * m:=by omega
   have hq:(j-n) / m<n:=(Nat.div_lt_iff_lt_mul (by omega)).2 hjm
   have hi:(j-n) % m<m:=Nat.mod_lt _ (by omega)
   have e:(j-n) / m * m+(j-n) % m=j-n:=by rw[Nat.mul_comm];exact Nat.div_add_mod _ _
   obtain⟨r,r1,r2,r3⟩:=h.r0 _ _ hq hi
   rw[e,show n+(j-n)=j by omega,hx]at r1
   cases r1
   have ho:A.Owner[j]? =some 0:=by
    rw[h.ol,List.getElem?_append_right (by simp;omega),List.length_replicate,vG,if_pos hjm]
   have hin:∀x∈row,0<=x/\x<(n:Int):=λx hx=>by
    obtain⟨o,ho,e⟩:=(r3 x).1 hx
    obtain⟨_,_,_,a,b⟩:=mC hm1 hm hd hD hq hi ho
    rw[e];exact⟨a,b⟩
   have hs:setOk (A.Owner.length:Int) row=true:=eh.2 ⟨λx hx=>by have:=hin x hx;omega,r2⟩
   have hne:1<=row.length:=List.length_pos_of_mem ((r3 _).2 ⟨0,by omega,rfl⟩)
   have hle:row.length<=k:=by
    -- each is one of k
    have h3:=mn (ys:=(List.range k).map λo=>tab d.Next ((j-n) / m:Nat) ((o * m+(j-n) % m:Nat):Int)) (gV r2) λz hz=>by
     obtain⟨o,ho,e⟩:=(r3 z).1 hz
     exact List.mem_map.2 ⟨o,List.mem_range.2 ho,e.symm⟩
    rwa [vV,List.length_range]at h3
   rw[ho,hs]
   simp only[Bool.and_true,vI,decide_eq_true_eq]
   exact⟨⟨by decide,by omega⟩,by omega⟩
end
end Go.Proofs.YtpcjbkgbnoocaaaGreat
set_option linter.unusedVariables false
set_option linter.unusedSimpArgs false
namespace Go.Proofs.YtpcjbkgbnoocaaaGreat
open Go Go.Wk Go.Proofs
theorem qS {p:Sig}(hs:sigOk p=true):eD p=some (pw p.In):=by
 unfold eD
 rw[ek (dE hs).1];rfl
section
variable {p:Sig}{d:Det}(hs:sigOk p=true){n m k:Nat}(hn:n<=48) (hn1:1<=n) (hm:pw p.In=(m:Int)) (hk:pw p.Out=(k:Int)) (hd:d.Next.length=n) (hD:∀row∈d.Next,RowIn (n:Int) ((m * k:Nat):Int) row)
include hs hn hm hk hd hD
omit hn in
theorem uk {q i:Nat}(hq:q<n) (hi:i<m):∃r,je p d q i=some r/\SuccR d m k q i r:=by
 have m1:=kQ p.In
 have k1:=kQ p.Out
 unfold je
 obtain⟨o,w1,w2⟩:=cw (f:=e6 p d q i) (λj (s:List Int×Int)=>s.2=(j:Int)/\j<=k/\Asc s.1/\s.1.length<=j/\∀z,z∈s.1↔∃o:Nat,o<j/\z=tab d.Next q ((o * m+i:Nat):Int)) (λ_=>False) (λs=>SuccR d m k q i s.1) k (λj s ⟨e1,hj,a1,a2,a3⟩=>by
  obtain⟨xs,o⟩:=s
  dsimp only at e1 a1 a2 a3
  subst e1
  unfold e6
  rw[ek (dE hs).2,gs,hk]
  dsimp only
  by_cases hlt:j<k
  · obtain⟨row,r1,r2,_⟩:=mC (d:=d) (k:=k) (by omega) (by omega) hd hD hq hi hlt
    obtain⟨R,t1,t2,t3⟩:=tN a1 (tab d.Next q ((j * m+i:Nat):Int)) (by omega)
    have hlet:=kT hs (x:=(i:Int)) (o:=(j:Int)) (by omega) (by omega) (by omega) (by omega)
    have e:(j:Int) * (m:Int)+(i:Int)=((j * m+i:Nat):Int):=by simp
    rw[hm,e]at hlet
    rw[decide_eq_true (show(j:Int)<(k:Int) by omega),cond_true,r1,gs,hlet,gs,r2,gs,t1,gs,wr' (by omega) (by omega)]
    have hRl:R.length<=xs.length+1:=mn (ys:=tab d.Next q ((j * m+i:Nat):Int)::xs) (gV t2) λz hz=>by
     rcases(t3 z).1 hz with h | h
     · rw[h];exact List.mem_cons_self ..
     · exact List.mem_cons_of_mem _ h
    refine⟨_,rfl,by omega,by dsimp only;omega,by omega,t2,by dsimp only;omega,λz=>?_⟩
    dsimp only
    rw[t3,a3]
    constructor
    · rintro(h | ⟨o,o1,o2⟩)
      · exact⟨j,by omega,h⟩
      · exact⟨o,by omega,o2⟩
    · rintro⟨o,o1,o2⟩
      by_cases e:o=j
      · subst e;exact .inl o2
      · exact .inr ⟨o,by omega,o2⟩
  · have:j=k:=by omega
    subst this
    rw[decide_eq_false (show ¬((j:Nat):Int)<(j:Int) by omega),cond_false]
    exact⟨_,rfl,a1,a3⟩) (2 ^ 64) 0 ([],0) (by omega) ⟨rfl,Nat.zero_le _,List.Pairwise.nil,Nat.le_refl _,λz=>by simp⟩ (by omega)
 match o,w2 with
 | .inr s,h=>rw[w1];exact⟨s.1,rfl,h⟩
omit hn hs in
theorem uD {q i:Nat}(hq:q<n) (hi:i<m):∃xs r,cntM (dL d (m:Int) q i) k 0 []=some (.inr xs)/\0<xs.length/\xs.length<=4/\cm xs=some (xs.mergeSort λx y=>decide (x<=y))/\cD (xs.mergeSort λx y=>decide (x<=y))=some r/\SuccR d m k q i r:=by
 have m1:=kQ p.In
 have k1:=kQ p.Out
 obtain⟨xs,h1,h2,h3⟩:=ca (f:=dL d (m:Int) q i) (λj (s:List Int)=>s.length=j/\∀z,z∈s↔∃o:Nat,o<j/\z=tab d.Next q ((o * m+i:Nat):Int)) k (s:=[]) ⟨rfl,λz=>by simp⟩ (λj s hj ⟨a1,a2⟩=>by
  obtain⟨row,r1,r2,_⟩:=mC (d:=d) (k:=k) (by omega) (by omega) hd hD hq hi hj
  have hb:j * m<=4 * 4:=Nat.mul_le_mul (by omega) (by omega)
  have e:(j:Int) * (m:Int)=((j * m:Nat):Int):=by simp
  unfold dL
  rw[r1,gs,e,wr' (z:=((j * m:Nat):Int)) (by omega) (by omega),wr' (by omega) (by omega),show((j * m:Nat):Int)+(i:Int)=((j * m+i:Nat):Int) by omega,r2,gs,app1 (by omega) rfl]
  refine⟨_,rfl,by rw[vK,a1];rfl,λz=>?_⟩
  rw[vS,vL,a2]
  constructor
  · rintro(⟨o,o1,o2⟩ | h)
    · exact⟨o,by omega,o2⟩
    · exact⟨j,by omega,h⟩
  · rintro⟨o,o1,o2⟩
    by_cases e:o=j
    · subst e;exact .inr o2
    · exact .inl ⟨o,by omega,o2⟩)
 have hpw:(xs.mergeSort λx y=>decide (x<=y)).Pairwise (·<=·):=by
  have h:=List.pairwise_mergeSort (le:=λx y:Int=>decide (x<=y)) (λa b c h1 h2=>by simp only[decide_eq_true_eq]at *;omega) (λa b=>by simp only[Bool.or_eq_true,decide_eq_true_eq];omega) xs
  exact h.imp λh=>by simpa using h
 have hml:(xs.mergeSort λx y=>decide (x<=y)).length=xs.length:=List.length_mergeSort ..
 obtain⟨c1,c2⟩:=rE hpw
 refine⟨xs,_,h1,by omega,by omega,?_,?_,c1,λz=>?_⟩
 · unfold cm
   rw[if_pos ⟨by omega,by omega⟩]
 · unfold cD
   rw[if_pos ⟨by omega,by omega⟩]
 · rw[c2,List.mem_mergeSort,h3]
omit hs hk hD in
theorem ta:cntM (dz d (m:Int)) n 0 ([],[])=some (.inr (sh n 1,(List.range n).map (rowQ n m)))/\cntM (dM d (m:Int)) n 0 ([],[])=some (.inr (sh n 1,(List.range n).map (rowQ n m))):=by
 have m1:=kQ p.In
 have hr:rng (m:Int)=some ():=by unfold rng;rw[if_pos (by omega)]
 have hin:∀q:Nat,q<n->cntM (dD d (m:Int) q) m 0 []=some (.inr (rowQ n m q))/\cntM (dx d (m:Int) q) m 0 []=some (.inr (rowQ n m q)):=λq hq=>by
  have hb:q * m<=48 * 4:=Nat.mul_le_mul (by omega) (by omega)
  have e:(q:Int) * (m:Int)=((q * m:Nat):Int):=by simp
  have hv:∀j:Nat,j<m->IntKind.i64.wrap (IntKind.i64.wrap ((d.Next.length:Int)+IntKind.i64.wrap ((q:Int) * (m:Int)))+(j:Int))=((n+q * m+j:Nat):Int):=λj hj=>by
   rw[e,wr' (z:=((q * m:Nat):Int)) (by omega) (by omega),wr' (z:=(d.Next.length:Int)+((q * m:Nat):Int)) (by omega) (by omega),wr' (by omega) (by omega)]
   omega
  have hl:∀j:Nat,((List.range j).map λi=>((n+q * m+i:Nat):Int)).length=j:=λj=>by rw[vV,List.length_range]
  constructor
  · obtain⟨s,h1,h2⟩:=ca (f:=dD d (m:Int) q) (λj s=>s=(List.range j).map λi=>((n+q * m+i:Nat):Int)) m (s:=[]) rfl (λj s hj e=>by
     subst e
     unfold dD
     rw[hv j hj,app1 (by rw[hl];omega) rfl]
     exact⟨_,rfl,by rw[List.range_succ,List.map_append];rfl⟩)
    rw[h1,h2];rfl
  · obtain⟨s,h1,h2⟩:=ca (f:=dx d (m:Int) q) (λj s=>s=(List.range j).map λi=>((n+q * m+i:Nat):Int)) m (s:=[]) rfl (λj s hj e=>by
     subst e
     unfold dx
     rw[hv j hj,app1 (by rw[hl];omega) rfl]
     exact⟨_,rfl,by rw[List.range_succ,List.map_append];rfl⟩)
    rw[h1,h2];rfl
 have hm0:Int.toNat ((m:Int)-0)=m:=by omega
 constructor
 · obtain⟨s,h1,h2⟩:=ca (f:=dz d (m:Int)) (λj s=>s=(sh j 1,(List.range j).map (rowQ n m))) n (s:=([],[])) rfl (λj s hj e=>by
    subst e
    unfold dz
    dsimp only
    rw[hr,gs,hm0,(hin j hj).1,gs,bK,app1 (by simp;omega) rfl,gs,app1 (by simp;omega) rfl,gs]
    exact⟨_,rfl,by rw[List.replicate_succ',List.range_succ,List.map_append];rfl⟩)
   rw[h1,h2]
 · obtain⟨s,h1,h2⟩:=ca (f:=dM d (m:Int)) (λj s=>s=(sh j 1,(List.range j).map (rowQ n m))) n (s:=([],[])) rfl (λj s hj e=>by
    subst e
    unfold dM
    dsimp only
    rw[hr,gs,hm0,(hin j hj).2,gs,bK,app1 (by simp;omega) rfl,gs,app1 (by simp;omega) rfl,gs]
    exact⟨_,rfl,by rw[List.replicate_succ',List.range_succ,List.map_append];rfl⟩)
   rw[h1,h2]
def ConR (d:Det) (n m k c:Nat) (s:List Int×List (List Int)):Prop:=s.1=sh n 1++sh c 0/\∃R,s.2=(List.range n).map (rowQ n m)++R/\R.length=c/\∀q i:Nat,q<n->i<m->q * m+i<c->∃r,R[q * m+i]? =some r/\SuccR d m k q i r
theorem sn:∃s,cntM (dN p d (m:Int)) n 0 (sh n 1,(List.range n).map (rowQ n m))=some (.inr s)/\cntM (dJ p d (m:Int)) n 0 (sh n 1,(List.range n).map (rowQ n m))=some (.inr s)/\ConR d n m k (n * m) s:=by
 have m1:=kQ p.In
 have k1:=kQ p.Out
 have hr:rng (m:Int)=some ():=by unfold rng;rw[if_pos (by omega)]
 have hrk:rng (k:Int)=some ():=by unfold rng;rw[if_pos (by omega)]
 have hm0:Int.toNat ((m:Int)-0)=m:=by omega
 have hk0:Int.toNat ((k:Int)-0)=k:=by omega
 obtain⟨sh1,sh2⟩:=nX (dE hs).2
 rw[hk]at sh2
 have hnm:n * m<=48 * 4:=Nat.mul_le_mul hn (by omega)
 obtain⟨s,t,h1,h2,h3,h4⟩:=qa (f:=dN p d (m:Int)) (g:=dJ p d (m:Int)) (λq s t=>s=t/\ConR d n m k (q * m) s) n (s:=(sh n 1,(List.range n).map (rowQ n m))) (t:=(sh n 1,(List.range n).map (rowQ n m))) ⟨rfl,by rw[Nat.zero_mul];exact⟨by simp,[],by simp,rfl,λq i _ _ h=>absurd h (Nat.not_lt_zero _)⟩⟩ (λq s t hq ⟨e,hC⟩=>by
  subst e
  obtain⟨s',t',g1,g2,g3,g4⟩:=qa (f:=du p d q) (g:=dv p d (m:Int) q) (λi s t=>s=t/\ConR d n m k (q * m+i) s) m (s:=s) (t:=s) ⟨rfl,hC⟩ (λi s t hi ⟨e,hC⟩=>by
   subst e
   obtain⟨c1,R,c2,c3,c4⟩:=hC
   obtain⟨r,r1,r2⟩:=uk hs hm hk hd hD hq hi
   obtain⟨xs,r',x1,x2,x3,x4,x5,x6⟩:=uD hm hk hd hD hq hi
   have:=r2.uniq x6
   subst this
   have hlt:=px (n:=n) hq hi
   have l1:s.1.length=n+(q * m+i):=by rw[c1];simp
   have l2:s.2.length=n+(q * m+i):=by rw[c2];simp[c3]
   unfold du dv
   rw[app1 (xs:=s.1) (by omega) rfl,r1,sh1,sh2,hrk,hk0,x1]
   simp only[gs,bK]
   rw[x4,app1 (xs:=s.2) (by omega) rfl]
   simp only[gs]
   rw[x5,gs,app1 (xs:=s.2) (by omega) rfl,gs]
   refine⟨_,_,rfl,rfl,rfl,?_,R++[r],?_,by rw[vK,c3];rfl,λq' i' hq' hi' hlt'=>?_⟩
   · dsimp only
     rw[c1,← Nat.add_assoc,List.replicate_succ',List.append_assoc]
   · dsimp only
     rw[c2,List.append_assoc]
   · by_cases e:q' * m+i'=q * m+i
     · obtain⟨e1,e2⟩:=uT hi' hi e
       subst e1 e2
       exact⟨r,by rw[← c3];simp,r2⟩
     · obtain⟨r0,a,b⟩:=c4 q' i' hq' hi' (by omega)
       exact⟨r0,by rw[List.getElem?_append_left (by omega)];exact a,b⟩)
  subst g3
  unfold dN dJ
  rw[hr,gs,gs,hm0]
  have g1':cntM (du p d q) m 0 (s.1,s.2)=some (.inr s'):=g1
  have g2':cntM (dv p d (m:Int) q) m 0 (s.1,s.2)=some (.inr s'):=g2
  rw[g1',g2',gs,gs,bK,bK]
  exact⟨_,_,rfl,rfl,rfl,by rw[Nat.add_mul,Nat.one_mul];exact g4⟩)
 subst h3
 exact⟨s,h1,h2,h4⟩
end
theorem copyPairs {ps:List Pair}(hl:ps.length<=4) (hb:∀x∈ps,x.Ask.length<=1000000000/\x.Give.length<=1000000000) (X:Det) (hX:X.Pairs=ps):cntM (dC X) ps.length 0 []=some (.inr ps)/\cntM (dd X) ps.length 0 []=some (.inr ps):=by
 constructor
 · obtain⟨s,h1,h2⟩:=ca (f:=dC X) (λj s=>s=ps.take j) ps.length (s:=[]) rfl (λj s hj e=>by
    subst e
    have hx:ps[j]? =some ps[j]:=hV hj
    generalize ps[j]=x at hx
    obtain⟨b1,b2⟩:=hb x (t0 hx)
    have cp:∀{xs:List Int},xs.length<=1000000000->di xs=some xs:=λ{xs} h=>by
     unfold di
     rw[appL (by rw[vP];omega) rfl];rfl
    unfold dC
    rw[hX,bG,hx,gs,gs,cp b1,gs,cp b2,gs,app1 (by rw[vO];omega) rfl]
    exact⟨_,rfl,by rw[vT,hx];rfl⟩)
   rw[h1,h2,List.take_length]
 · obtain⟨s,h1,h2⟩:=ca (f:=dd X) (λj s=>s=ps.take j) ps.length (s:=[]) rfl (λj s hj e=>by
    subst e
    have hx:ps[j]? =some ps[j]:=hV hj
    generalize ps[j]=x at hx
    obtain⟨b1,b2⟩:=hb x (t0 hx)
    unfold dd kn
    rw[hX,bG,hx,gs,appL (by rw[vP];omega) rfl,gs,appL (by rw[vP];omega) rfl,gs,gs,app1 (by rw[vO];omega) rfl]
    exact⟨_,rfl,by rw[vT,hx];rfl⟩)
   rw[h1,h2,List.take_length]
theorem pX {p:Sig}{d:Det}(hs:sigOk p=true) (hd:detOk p d=true):∃(n m k:Nat) (A:Arena),d.Next.length=n/\pw p.In=(m:Int)/\pw p.Out=(k:Int)/\1<=n/\n<=48/\1<=m/\m<=4/\1<=k/\k<=4/\(∀row∈d.Next,RowIn (n:Int) ((m * k:Nat):Int) row)/\(∀x∈d.Pairs,x.Ask.length<=1000000000/\x.Give.length<=1000000000)/\ConA d n m k A/\cT p d=some (A,d.Pairs,true)/\dX p d=some (A,d.Pairs):=by
 obtain⟨h1,h2,h3,h4⟩:=gG hd
 have m1:=kQ p.In
 have k1:=kQ p.Out
 obtain⟨m,hm⟩:=eN (z:=pw p.In) (by omega)
 obtain⟨k,hk⟩:=eN (z:=pw p.Out) (by omega)
 have hb:∀x∈d.Pairs,x.Ask.length<=1000000000/\x.Give.length<=1000000000:=λx hx=>by
  have hd':=hd
  unfold detOk at hd'
  simp only[vI]at hd'
  have hp:=hd'.1.2
  unfold pairsOk at hp
  rw[vI,List.all_eq_true]at hp
  have:=hp.2 x hx
  unfold pairOk at this
  rw[vI]at this
  have a1:=(St.of this.1).len
  have a2:=(St.of this.2).len
  omega
 have hD:∀row∈d.Next,RowIn (d.Next.length:Int) ((m * k:Nat):Int) row:=λrow hr=>by
  have:=h4 row hr
  unfold ltd at this
  rw[hm,hk]at this
  simpa using this
 obtain⟨f1,f2⟩:=ta h2 hm rfl
 obtain⟨s,s1,s2,c1,R,c2,c3,c4⟩:=sn hs h2 hm hk rfl hD
 obtain⟨p1,p2⟩:=copyPairs h3 hb d rfl
 refine⟨d.Next.length,m,k,⟨s.1,s.2⟩,rfl,hm,hk,h1,h2,by omega,by omega,by omega,by omega,hD,hb,⟨c1,?_,λq hq=>?_,λq i hq hi=>?_⟩,?_,?_⟩
 · show s.2.length=_
   rw[c2];simp[c3]
 · show s.2[q]? =_
   rw[c2,List.getElem?_append_left (by simpa using hq),List.getElem?_map,List.getElem?_range hq];rfl
 · obtain⟨r,r1,r2⟩:=c4 q i hq hi (px hq hi)
   refine⟨r,?_,r2⟩
   show s.2[_]? =_
   rw[c2,List.getElem?_append_right (by simp),vV,List.length_range,Nat.add_sub_cancel_left]
   exact r1
 · unfold cT
   rw[ik hs hb,hd,gs,vJ,cond_false,qS hs,gs,hm,f1,gs,bK]
   dsimp only
   rw[s1,gs,bK,p1];rfl
 · unfold dX
   rw[jS hs,gs,hm,f2,gs,bK]
   dsimp only
   rw[s2,gs,bK,p2];rfl
end Go.Proofs.YtpcjbkgbnoocaaaGreat
set_option linter.unusedVariables false
set_option linter.unusedSimpArgs false
namespace Go.Proofs.YtpcjbkgbnoocaaaGreat
open Go Go.Wk Go.Proofs
def atP (P:List Place) (y:Int):Int:=match idx P y with | some v=>v.At | none=> -1
theorem jQ {P:List Place}{y:Int}{v:Place}(h:idx P y=some v):atP P y=v.At:=by unfold atP;rw[h]
structure Cx (d:Det) (n m k:Nat) (A:Arena) (P:List Place) (g:Parity) (W:Int->Prop) (pk:List Int):Prop where
 n1:1<=n
 n48:n<=48
 m1:1<=m
 m4:m<=4
 k1:1<=k
 k4:k<=4
 dl:d.Next.length=n
 cell:∀row∈d.Next,RowIn (n:Int) ((m * k:Nat):Int) row
 con:ConA d n m k A
 rg:RecG A d.Pairs ⟨0,firstR d.Pairs.length⟩ P g
 ok:parityOk g=true
 sol:Solv g W pk
section
variable {d:Det}{n m k:Nat}{A:Arena}{P:List Place}{g:Parity}{W:Int->Prop}{pk:List Int}(h:Cx d n m k A P g W pk)
include h
theorem Cx.len:g.Prio.length=P.length/\g.Arena.Owner.length=P.length/\g.Arena.Next.length=P.length/\P.length<=256/\1<=P.length/\pk.length=P.length:=by
 have r:=h.rg.game
 have h1:=r.ol
 have h2:=r.nl
 have h3:=r.ql
 have h4:=h.sol.len
 have h5:=(it.1 r.zero).1
 exact⟨h3,h1,h2,h.rg.le,by omega,by omega⟩
theorem Cx.place {x:Int}(hx:Xn P.length x):∃v,idx P x=some v/\0<=v.At/\v.At<((n+n * m:Nat):Int):=by
 obtain⟨v,hv,hm⟩:=iE (xs:=P) hx.1 hx.2
 have o:=h.rg.game.inn v hm
 have h2:=o.a1
 rw[h.con.ol,vK,List.length_replicate,List.length_replicate]at h2
 exact⟨v,hv,o.a0,h2⟩
theorem Cx.row {x:Int}{v:Place}(hv:idx P x=some v):∃r ar rc,idx g.Arena.Next x=some r/\idx A.Next v.At=some ar/\RowP P ar rc r/\idx g.Arena.Owner x=idx A.Owner v.At/\r.length<=16:=by
 obtain⟨x0,x1⟩:=(gF hv)
 obtain⟨i,hi⟩:=eN x0
 subst hi
 rw[bG]at hv
 have hlt:=(it.1 hv).1
 obtain⟨b1,_,r,ar,b3,b4,b5⟩:=h.rg.game.row i v hlt hv
 refine⟨r,ar,_,by rw[bG];exact b3,b4,b5,by rw[bG];exact b1,?_⟩
 have:=(cU h.ok).2.2.2.2 i r b3
 exact this.2.1
omit h in
theorem sA {x y:Int}{r:List Int}(hr:idx g.Arena.Next x=some r):(gI g).E x y↔y∈r:=by
 show y∈rowI g.Arena x↔_
 rw[eV hr]
theorem Cx.state {x:Int}{v:Place}(hv:idx P x=some v) (hs:v.At<(n:Int)):(gI g).own x=true/\∃(q:Nat) (r:List Int),v.At=(q:Int)/\q<n/\idx g.Arena.Next x=some r/\(∀y∈r,Xn P.length y/\∃i:Nat,i<m/\atP P y=((n+(q * m+i):Nat):Int))/\∀i:Nat,i<m->∃y∈r,atP P y=((n+(q * m+i):Nat):Int):=by
 obtain⟨v',hv',a0,_⟩:=h.place (x:=x) ⟨(gF hv).1,(gF hv).2.1⟩
 rw[hv]at hv'
 cases hv'
 obtain⟨q,hq⟩:=eN a0
 have hqn:q<n:=by omega
 obtain⟨r,ar,rc,r1,r2,r3,r4,_⟩:=h.row hv
 have hAr:ar=rowQ n m q:=by
  rw[hq,bG,h.con.r1 q hqn]at r2
  exact(Option.some.inj r2).symm
 subst hAr
 have how:idx g.Arena.Owner x=some 1:=by
  rw[r4,hq,bG,h.con.ol,List.getElem?_append_left (by simpa using hqn),vG,if_pos hqn]
 refine⟨?_,q,r,hq,hqn,r1,λy hy=>?_,λi hi=>?_⟩
 · show ownL _ x=true
   unfold ownL
   rw[how];rfl
 · obtain⟨y0,u,hu,e⟩:=r3.to y hy
   have hlt:=(it.1 e).1
   unfold rowQ at hu
   obtain⟨i,hi,hu⟩:=List.mem_map.1 hu
   refine⟨⟨y0,by omega⟩,i,List.mem_range.1 hi,?_⟩
   rw[jQ (by rw[cG y0];exact e),← hu,Nat.add_assoc]
 · obtain⟨y,hy,y0,e⟩:=r3.has ((n+q * m+i:Nat):Int) (by unfold rowQ;exact List.mem_map.2 ⟨i,List.mem_range.2 hi,rfl⟩)
   refine⟨y,hy,?_⟩
   rw[jQ (by rw[cG y0];exact e),Nat.add_assoc]
theorem Cx.mid {y:Int}(hy:Xn P.length y){q i:Nat}(hq:q<n) (hi:i<m) (ha:atP P y=((n+(q * m+i):Nat):Int)):(gI g).own y=false/\∃r,idx g.Arena.Next y=some r/\(∀z∈r,Xn P.length z/\∃o:Nat,o<k/\atP P z=tab d.Next q ((o * m+i:Nat):Int))/\∀o:Nat,o<k->∃z∈r,atP P z=tab d.Next q ((o * m+i:Nat):Int):=by
 obtain⟨v,hv,_,_⟩:=h.place hy
 rw[jQ hv]at ha
 obtain⟨r,ar,rc,r1,r2,r3,r4,_⟩:=h.row hv
 have hlt:=px (n:=n) hq hi
 obtain⟨ar',s1,s2,s3⟩:=h.con.r0 q i hq hi
 have hAr:ar=ar':=by
  rw[ha,bG,s1]at r2
  exact(Option.some.inj r2).symm
 subst hAr
 have how:idx g.Arena.Owner y=some 0:=by
  rw[r4,ha,bG,h.con.ol,List.getElem?_append_right (by simp),List.length_replicate,Nat.add_sub_cancel_left,vG,if_pos hlt]
 refine⟨?_,r,r1,λz hz=>?_,λo ho=>?_⟩
 · show ownL _ y=false
   unfold ownL
   rw[how];rfl
 · obtain⟨z0,u,hu,e⟩:=r3.to z hz
   have hl:=(it.1 e).1
   obtain⟨o,ho,hu⟩:=(s3 u).1 hu
   exact⟨⟨z0,by omega⟩,o,ho,by rw[jQ (by rw[cG z0];exact e),hu]⟩
 · obtain⟨z,hz,z0,e⟩:=r3.has _ ((s3 _).2 ⟨o,ho,rfl⟩)
   exact⟨z,hz,by rw[jQ (by rw[cG z0];exact e)]⟩
theorem Cx.cellAt {q i o:Nat}(hq:q<n) (hi:i<m) (ho:o<k):∃row,idx d.Next (q:Int)=some row/\idx row ((o * m+i:Nat):Int)=some (tab d.Next q ((o * m+i:Nat):Int))/\0<=tab d.Next q ((o * m+i:Nat):Int)/\tab d.Next q ((o * m+i:Nat):Int)<(n:Int):=
 mC h.m1 h.m4 h.dl h.cell hq hi ho
theorem Cx.mine {x:Int}(hx:Xn P.length x) (ho:(gI g).own x=wB W x):∃y,idx pk x=some y/\Xn P.length y/\(gI g).E x y/\wB W y=wB W x:=by
 obtain⟨l1,_,_,_,_,l6⟩:=h.len
 have ha:=h.sol.ans
 rw[l1]at ha
 obtain⟨a1,a2,a3,a4⟩:=ha.mine x hx ho
 obtain⟨y,hy,_⟩:=iE (xs:=pk) hx.1 (by have:=hx.2;omega)
 rw[qb hy]at a1 a2 a3 a4
 exact⟨y,hy,a3,a2,a4⟩
theorem Cx.yours {x y:Int}(hx:Xn P.length x) (ho:¬(gI g).own x=wB W x) (he:(gI g).E x y) (hy:Xn P.length y):wB W y=wB W x:=by
 obtain⟨l1,_⟩:=h.len
 have ha:=h.sol.ans
 rw[l1]at ha
 exact ha.yours x y hx ho he hy
end
def toP (P:List Place) (r:List Int) (z:Int):Option Nat:=r.findIdx? λy=>atP P y==z
theorem t6 {P:List Place}{r:List Int}{z:Int}(h:∃y∈r,atP P y=z):∃j y,toP P r z=some j/\r[j]? =some y/\atP P y=z:=by
 obtain⟨y,hy,e⟩:=h
 cases hf:toP P r z with
 | none=>
  unfold toP at hf
  rw[List.findIdx?_eq_none_iff]at hf
  have:=hf y hy
  simp[e]at this
 | some j=>
  unfold toP at hf
  obtain⟨h1,h2,_⟩:=List.findIdx?_eq_some_iff_getElem.1 hf
  exact⟨j,r[j],rfl,hV h1,by simpa using h2⟩
def tgt (P:List Place) (r:List Int) (z:Int):Int:=match toP P r z with | some j=>r.getD j 0 | none=> -1
theorem tG {P:List Place}{r:List Int}{z:Int}(h:∃y∈r,atP P y=z):tgt P r z∈r/\atP P (tgt P r z)=z/\∃j:Nat,toP P r z=some j/\r[j]? =some (tgt P r z):=by
 obtain⟨j,y,h1,h2,h3⟩:=t6 h
 have e:tgt P r z=y:=by
  unfold tgt
  rw[h1]
  show r.getD j 0=y
  rw[List.getD_eq_getElem?_getD,h2];rfl
 rw[e]
 exact⟨t0 h2,h3,j,h1,h2⟩
def nmRow (f:Nat->Int) (F:List Int):Nat->List Int×List Int
 | 0=>(F,[])
 | j+1=>(addN (nmRow f F j).1 (f j),(nmRow f F j).2++[placeOf (addN (nmRow f F j).1 (f j)) (f j)])
theorem pE {F:List Int}{t:Int}(h:t∈F):0<=placeOf F t/\placeOf F t<(F.length:Int):=by
 unfold placeOf
 cases hf:F.findIdx? (λx=>t==x) with
 | none=>
  rw[List.findIdx?_eq_none_iff]at hf
  have:=hf t h
  simp at this
 | some i=>
  obtain⟨h1,_⟩:=List.findIdx?_eq_some_iff_getElem.1 hf
  dsimp only
  omega
theorem tA {F:List Int}{t:Int}:t∈addN F t:=by
 unfold addN
 by_cases h:t∈F
 · rw[if_pos h];exact h
 · rw[if_neg h];simp
theorem tQ {F:List Int}{t x:Int}(h:x∈addN F t):x∈F\/x=t:=by
 unfold addN at h
 by_cases ht:t∈F
 · rw[if_pos ht]at h;exact .inl h
 · rw[if_neg ht]at h;simpa using h
theorem pF {F:List Int}(t:Int) (hl:F.length<=1000):(bif decide (placeOf F t<0) then ds (appS 8 F [t]) λx=>some (x,(F.length:Int)) else some (F,placeOf F t))=some (addN F t,placeOf (addN F t) t):=by
 by_cases h:t∈F
 · rw[decide_eq_false (by have:=(pE h).1;omega),cond_false]
   unfold addN
   rw[if_pos h]
 · rw[sY h,decide_eq_true (by omega),cond_true,app1 (by omega) rfl]
   unfold addN
   rw[if_neg h,sT h];rfl
structure NmRow (N:Nat) (F:List Int) (j:Nat) (Q:Int->Prop) (F' row:List Int):Prop where
 nm:Names N F'
 pre:∀(i:Nat) v,F[i]? =some v->F'[i]? =some v
 len:F.length<=F'.length
 le:F'.length<=F.length+j
 rl:row.length=j
 rin:∀x∈row,0<=x/\x<(F'.length:Int)
 all:∀x∈F',Q x
theorem ra {N:Nat}{F:List Int}{Q:Int->Prop}(hF:Names N F) (hQ:∀x∈F,Q x){f:Nat->Int}{c:Nat}(hf:∀j,j<c->0<=f j/\f j<(N:Int)/\Q (f j)):∀j,j<=c->NmRow N F j Q (nmRow f F j).1 (nmRow f F j).2
 | 0,_=>⟨hF,λ_ _ h=>h,Nat.le_refl _,Nat.le_refl _,rfl,λx hx=>(by cases hx),hQ⟩
 | j+1,hj=>by
  have r:=ra hF hQ hf j (by omega)
  obtain⟨f0,f1,f2⟩:=hf j (by omega)
  unfold nmRow
  generalize nmRow f F j=G at *
  obtain⟨a1,a2⟩:=r.nm.add f0 f1
  have hlen:G.1.length<=(addN G.1 (f j)).length/\(addN G.1 (f j)).length<=G.1.length+1:=by
   unfold addN
   by_cases h:f j∈G.1
   · rw[if_pos h];omega
   · rw[if_neg h,vK];simp
  have h1:=r.len
  have h2:=r.le
  have hm:=pE (tA (F:=G.1) (t:=f j))
  refine⟨a1,λi v hv=>a2 i v (r.pre i v hv),by dsimp only;omega,by dsimp only;omega,by simp[r.rl],λx hx=>?_,λx hx=>?_⟩
  · rcases vS.1 hx with hx | hx
    · have:=r.rin x hx
      dsimp only;omega
    · rw[vL.1 hx];exact hm
  · rcases tQ hx with hx | hx
    · exact r.all x hx
    · rw[hx];exact f2
end Go.Proofs.YtpcjbkgbnoocaaaGreat
set_option linter.unusedVariables false
set_option linter.unusedSimpArgs false
namespace Go.Proofs.YtpcjbkgbnoocaaaGreat
open Go Go.Wk Go.Proofs
theorem tE (p:Sig):gt p zeroD=some false:=by
 cases hs:sigOk p with
 | true=>
  rw[ik hs (λx hx=>by cases hx)]
  rfl
 | false=>
  unfold gt
  rw[eE,hs];rfl
theorem t8 (p:Sig):cT p zeroD=some (⟨[],[]⟩,[],false):=by
 unfold cT
 rw[tE];rfl
theorem tO:c8 ⟨[],[]⟩ [] 0=some noRec:=by
 unfold c8
 rw[ku];rfl
structure Stp3 (p:Sig) (cs:List Clause) (d:Det) (n m k:Nat) (A:Arena) (P:List Place) (g:Parity) (W:Int->Prop) (pk:List Int):Prop where
 sig:sigOk p=true
 det:detOk p d=true
 im:pw p.In=(m:Int)
 ok:pw p.Out=(k:Int)
 cx:Cx d n m k A P g W pk
 sC:cT p d=some (A,d.Pairs,true)
 iC:dX p d=some (A,d.Pairs)
 sR:c8 A d.Pairs 0=some (g,P,true)
 iR:dZ A d.Pairs 0=some (g,P,true)
 sS:jX g=some ⟨wonL g.Prio.length W,pk⟩
 iS:j9 g=some ⟨wonL g.Prio.length W,pk⟩
 sW:eY g=some (wonL g.Prio.length W)
 iW:eW g=some (wonL g.Prio.length W)
 won:idx (wonL g.Prio.length W) 0=some (b2i (wB W 0))
structure Stp2 (p:Sig) (d:Det) (A:Arena):Prop where
 sig:sigOk p=true
 det:detOk p d=true
 pb:∀x∈d.Pairs,x.Ask.length<=1000000000/\x.Give.length<=1000000000
 aok:arenaOk A=true
 pok:pairsOk d.Pairs (A.Owner.length:Int)=true
 a1:1<=A.Owner.length/\A.Owner.length<=256
 sC:cT p d=some (A,d.Pairs,true)
 iC:dX p d=some (A,d.Pairs)
theorem setup (p:Sig){cs:List Clause}(hb:∀c∈cs,Clause.bd c):(df p cs=some (zeroD,false)/\dh p cs=some (zeroD,false))\/∃d A,df p cs=some (d,true)/\dh p cs=some (d,true)/\Stp2 p d A /\
 ((c8 A d.Pairs 0=some noRec/\dZ A d.Pairs 0=some noRec)\/∃n m k P g W pk,Stp3 p cs d n m k A P g W pk):=by
 rcases qj p hb with ⟨h1,h2,_⟩ | ⟨hs,hc,_,d,_,_,_,hd,_,h1,h2⟩
 · exact .inl ⟨h1,h2⟩
 · right
   obtain⟨n,m,k,A,q1,q2,q3,n1,n48,m1,m4,k1,k4,hD,hpb,hA,hsC,hiC⟩:=pX hs hd
   have hAok:=vo n48 n1 m1 m4 k1 k4 q1 hD hA
   have hol:A.Owner.length=n+n * m:=by rw[hA.ol];simp
   have hnm:n * m<=48 * 4:=Nat.mul_le_mul n48 m4
   have hps:pairsOk d.Pairs (A.Owner.length:Int)=true:=by
    have hd':=hd
    unfold detOk at hd'
    simp only[vI]at hd'
    have hp:=hd'.1.2
    unfold pairsOk at hp ⊢
    rw[vI,List.all_eq_true]at hp ⊢
    refine⟨hp.1,λx hx=>?_⟩
    have:=hp.2 x hx
    unfold pairOk at this ⊢
    rw[vI]at this ⊢
    exact⟨(St.of this.1).ok (by omega),(St.of this.2).ok (by omega)⟩
   refine⟨d,A,h1,h2,⟨hs,hd,hpb,hAok,hps,⟨by omega,by omega⟩,hsC,hiC⟩,?_⟩
   rcases oW hAok hps hpb (Int.le_refl 0) (by omega) with ⟨r1,r2⟩ | ⟨P,g,hG,hok,r1,r2⟩
   · exact .inl ⟨r1,r2⟩
   · right
     obtain⟨W,pk,s1,s2,s3,s4,s5⟩:=qE hok
     have hcx:Cx d n m k A P g W pk:=⟨n1,n48,m1,m4,k1,k4,q1,hD,hA,hG,hok,s5⟩
     obtain⟨l1,_,_,_,l5,_⟩:=hcx.len
     exact⟨n,m,k,P,g,W,pk,hs,hd,q2,q3,hcx,hsC,hiC,r1,r2,s1,s2,s3,s4,jz ⟨Int.le_refl _,by omega⟩⟩
end Go.Proofs.YtpcjbkgbnoocaaaGreat
set_option linter.unusedVariables false
set_option linter.unusedSimpArgs false
namespace Go.Proofs.YtpcjbkgbnoocaaaGreat
open Go Go.Wk Go.Proofs
theorem uN {P:List Place}{r:List Int}{z:Int}(hr:∀y∈r,Xn P.length y):mH r P z=some (tgt P r z):=by
 unfold mH
 rw[en (f:=jn r P z) (λy=>atP P y==z) (λi=>r.getD i 0) (xs:=r) (λi y hy=>by
  obtain⟨v,hv,_⟩:=iE (xs:=P) (hr y (t0 hy)).1 (hr y (t0 hy)).2
  unfold jn
  rw[bG,hy,gs,hv,gs,jQ hv,gs,List.getD_eq_getElem?_getD,hy]
  cases v.At==z <;> rfl)]
 unfold tgt toP
 cases r.findIdx? (λy=>atP P y==z) <;> rfl
theorem uO {P:List Place}{r:List Int}{z:Int}(hr:∀y∈r,Xn P.length y){j:Nat}(hj:toP P r z=some j):bV r P z=some (j:Int):=by
 rw[d5 (λy=>atP P y==z) (λy hy=>by
  obtain⟨v,hv,_⟩:=iE (xs:=P) (hr y hy).1 (hr y hy).2
  unfold fq
  rw[hv,gs,jQ hv])]
 unfold toP at hj
 rw[hj]
section
variable {p:Sig}(hs:sigOk p=true){d:Det}{n m k:Nat}{A:Arena}{P:List Place}{g:Parity}{W:Int->Prop}{pk wn:List Int}(h:Cx d n m k A P g W pk) (hm:pw p.In=(m:Int)) (hk:pw p.Out=(k:Int))
include hs h hm hk
theorem rh {F:List Int}(hF:F.length<=256){v u:Place}{y:Int}{q i:Nat}{r:List Int}(hq:q<n) (hi:i<m) (hv:v.At=(q:Int)) (hr:idx g.Arena.Next y=some r) (hR:∀z∈r,Xn P.length z) (hA:∀o:Nat,o<k->∃z∈r,atP P z=tab d.Next q ((o * m+i:Nat):Int)) (hin:Int.tmod (IntKind.i64.wrap (u.At-(d.Next.length:Int))) (m:Int)=(i:Int)):
 (∃z,whileM (dA p (d,true) (g,P,true) v y u (m:Int)) (2 ^ 64) (F,[],0)=some (.inr ((nmRow (λo=>tgt P r (tab d.Next q ((o * m+i:Nat):Int))) F k).1,(nmRow (λo=>tgt P r (tab d.Next q ((o * m+i:Nat):Int))) F k).2,z))) /\
 cntM (dR p d g P v y u (m:Int)) k 0 (F,[])=some (.inr (nmRow (λo=>tgt P r (tab d.Next q ((o * m+i:Nat):Int))) F k)):=by
 have hk4:=h.k4
 have hm4:=h.m4
 generalize hfe:(λo:Nat=>tgt P r (tab d.Next q ((o * m+i:Nat):Int)))=f
 have hf:∀o,f o=tgt P r (tab d.Next q ((o * m+i:Nat):Int)):=λo=>by rw[← hfe]
 have hlen:∀j,j<=k->(nmRow f F j).1.length<=300/\(nmRow f F j).2.length=j:=by
  intro j
  induction j with
  | zero=>intro _;exact⟨by show F.length<=300;omega,rfl⟩
  | succ j ih=>
   intro hj
   have hle:(nmRow f F j).1.length<=F.length+j:=by
    clear ih hj
    induction j with
    | zero=>exact Nat.le_refl _
    | succ j ih=>
     show(addN _ _).length<=_
     unfold addN
     split
     · omega
     · rw[vK];simp;omega
   obtain⟨_,b⟩:=ih (by omega)
   refine⟨?_,by show((nmRow f F j).2++[_]).length=_;rw[vK,b];rfl⟩
   show(addN _ _).length<=300
   unfold addN
   split
   · omega
   · rw[vK];simp;omega
 have hfacts:∀j:Nat,j<k->∃row,idx d.Next v.At=some row/\idx row ((j:Int) * (m:Int)+(i:Int))=some (tab d.Next q ((j * m+i:Nat):Int))/\∃jj:Nat,toP P r (tab d.Next q ((j * m+i:Nat):Int))=some jj/\r[jj]? =some (f j):=λj hj=>by
  obtain⟨row,r1,r2,_⟩:=h.cellAt hq hi hj
  obtain⟨_,_,jj,t1,t2⟩:=tG (hA j hj)
  refine⟨row,by rw[hv];exact r1,?_,jj,t1,by rw[hf];exact t2⟩
  rw[← r2]
  congr 1
 constructor
 · obtain⟨o,w1,w2⟩:=cw (f:=dA p (d,true) (g,P,true) v y u (m:Int)) (λj (s:List Int×List Int×Int)=>s=((nmRow f F j).1,(nmRow f F j).2,(j:Int))/\j<=k) (λ_=>False) (λs=>∃z,s=((nmRow f F k).1,(nmRow f F k).2,z)) k (λj s ⟨e,hj⟩=>by
    subst e
    obtain⟨l1,l2⟩:=hlen j hj
    unfold dA iO
    dsimp only
    rw[ek (dE hs).2,hk,gs,gs]
    by_cases hlt:j<k
    · obtain⟨row,r1,r2,jj,t1,t2⟩:=hfacts j hlt
      rw[decide_eq_true (show(j:Int)<(k:Int) by omega),cond_true,hr,gs,r1,gs,hin]
      rw[kT hs (x:=(i:Int)) (o:=(j:Int)) (by omega) (by omega) (by omega) (by omega),hm,gs,r2,gs,uN hR,gs,← hf,qm,gs,pF _ (by omega),gs]
      dsimp only
      rw[app1 (by omega) rfl,gs,wr' (by omega) (by omega)]
      exact⟨_,rfl,hlt,by rfl,by omega⟩
    · have:j=k:=by omega
      subst this
      rw[decide_eq_false (show ¬((j:Nat):Int)<(j:Int) by omega),cond_false]
      exact⟨_,rfl,_,rfl⟩) (2 ^ 64) 0 (F,[],0) (by omega) ⟨rfl,Nat.zero_le _⟩ (by omega)
   match o,w2 with
   | .inr s,⟨z,e⟩=>exact⟨z,by rw[w1,e]⟩
 · obtain⟨s,h1,h2⟩:=ca (f:=dR p d g P v y u (m:Int)) (λj s=>s=nmRow f F j) k (s:=(F,[])) rfl (λj s hj e=>by
    subst e
    obtain⟨l1,l2⟩:=hlen j (by omega)
    obtain⟨row,r1,r2,jj,t1,t2⟩:=hfacts j hj
    have hb:j * m<=4 * 4:=Nat.mul_le_mul (by omega) (by omega)
    have e:(j:Int) * (m:Int)=((j * m:Nat):Int):=by simp
    refine⟨nmRow f F (j+1),?_,rfl⟩
    unfold dR
    rw[r1,gs,jS hs,hm,gs,hin,wr' (z:=(j:Int) * (m:Int)) (by omega) (by omega),wr' (z:=(j:Int) * (m:Int)+(i:Int)) (by omega) (by omega),r2,gs,hr,gs,uO hR t1,gs,gs,bG,t2,gs,rF,gs,pF _ (by omega),gs]
    dsimp only
    rw[app1 (by omega) rfl,gs]
    rfl)
   rw[h1,h2]
structure Ctr (N m k:Nat) (Q:Int->Prop) (F:List Int) (i:Nat) (In:List Int) (Nx:List (List Int)):Prop where
 il:i<=F.length
 nm:Names N F
 all:∀x∈F,Q x
 zero:F[0]? =some 0
 inl:In.length=i
 nxl:Nx.length=i
 inr:∀x∈In,0<=x/\x<(m:Int)
 nxr:∀row∈Nx,row.length=k/\∀x∈row,0<=x/\x<(F.length:Int)
theorem qi (h0:wB W 0=true):∃s:List Int×Int×List Int×List (List Int),whileM (c9 p (d,true) (g,P,true) ⟨wn,pk⟩) (2 ^ 64) ([0],0,[],[])=some (.inr s)/\whileM (dy p d g P ⟨wn,pk⟩) (2 ^ 64) ([0],0,[],[])=some (.inr s)/\Ctr P.length m k (λx=>wB W x=true/\atP P x<(n:Int)) s.1 s.1.length s.2.2.1 s.2.2.2:=by
 obtain⟨_,_,_,hP256,hP1,hpk⟩:=h.len
 have hm1:=h.m1
 have hm4:=h.m4
 have hk1:=h.k1
 have hk4:=h.k4
 have hn48:=h.n48
 obtain⟨sh1,sh2⟩:=nX (dE hs).2
 rw[hk]at sh2
 have hrk:rng (k:Int)=some ():=by unfold rng;rw[if_pos (by omega)]
 have hk0:Int.toNat ((k:Int)-0)=k:=by omega
 have hnz:nz (m:Int)=some ():=by unfold nz;rw[if_neg (by omega)]
 have hz0:atP P 0<(n:Int):=by
  have hz:=h.rg.game.zero
  rw[jQ (v:=⟨0,firstR d.Pairs.length⟩) (by rw[show(0:Int)=((0:Nat):Int) from rfl,bG];exact hz)]
  have:=h.n1
  show(0:Int)<_
  omega
 obtain⟨o,t,w1,w2,w3⟩:=lA (f:=c9 p (d,true) (g,P,true) ⟨wn,pk⟩) (g:=dy p d g P ⟨wn,pk⟩) (λs t=>s=t/\∃i:Nat,s.2.1=(i:Int)/\Ctr P.length m k (λx=>wB W x=true/\atP P x<(n:Int)) s.1 i s.2.2.1 s.2.2.2) (λs=>300-s.2.1.toNat) (λ_ _=>False)
  (λs t=>s=t/\Ctr P.length m k (λx=>wB W x=true/\atP P x<(n:Int)) s.1 s.1.length s.2.2.1 s.2.2.2) (λs t ⟨e,i,hi,hC⟩=>by
  subst e
  obtain⟨F,z,In,Nx⟩:=s
  dsimp only at hi hC
  subst hi
  have hFl:=hC.nm.len
  unfold c9 dy
  dsimp only
  by_cases hlt:i<F.length
  · have hx:F[i]? =some F[i]:=hV hlt
    generalize F[i]=x at hx
    have hxm:=t0 hx
    have hxX:Xn P.length x:=hC.nm.2 x hxm
    obtain⟨hxw,hxa⟩:=hC.all x hxm
    obtain⟨v,hv,v0,v1⟩:=h.place hxX
    rw[jQ hv]at hxa
    obtain⟨hown,q,rx,hvq,hq,hrx,hrow,_⟩:=h.state hv hxa
    obtain⟨y,hy,hyX,hye,hyw⟩:=h.mine hxX (by rw[hown,hxw])
    obtain⟨_,ii,hii,hya⟩:=hrow y ((sA hrx).1 hye)
    obtain⟨u,hu,_,_⟩:=h.place hyX
    obtain⟨hyo,r,hr,hR1,hR2⟩:=h.mid hyX hq hii hya
    have hua:u.At=((n+(q * m+ii):Nat):Int):=by rw[← jQ hu];exact hya
    have hlt2:=px (n:=n) hq hii
    have hnm:n * m<=48 * 4:=Nat.mul_le_mul hn48 hm4
    have hin:Int.tmod (IntKind.i64.wrap (u.At-(d.Next.length:Int))) (m:Int)=(ii:Int):=by
     rw[hua,h.dl,wr' (by omega) (by omega),show((n+(q * m+ii):Nat):Int)-(n:Int)=((q * m+ii:Nat):Int) by omega,Int.tmod_eq_emod_of_nonneg (by omega)]
     have:(q * m+ii) % m=ii:=by
      rw[Nat.mul_comm,Nat.mul_add_mod]
      exact Nat.mod_eq_of_lt hii
     omega
    obtain⟨⟨zz,c1⟩,c2⟩:=rh hs h hm hk (F:=F) (v:=v) (u:=u) (y:=y) (by omega) hq hii hvq hr (λz hz=>(hR1 z hz).1) hR2 hin
    have hN:=ra (N:=P.length) (F:=F) (Q:=λx=>wB W x=true/\atP P x<(n:Int)) hC.nm hC.all (f:=λo=>tgt P r (tab d.Next q ((o * m+ii:Nat):Int))) (c:=k) (λj hj=>by
     obtain⟨t1,t2,_⟩:=tG (hR2 j hj)
     obtain⟨t3,_⟩:=hR1 _ t1
     obtain⟨_,_,_,_,b2⟩:=h.cellAt hq hii hj
     refine⟨t3.1,t3.2,?_,by rw[t2];exact b2⟩
     rw[h.yours hyX (by rw[hyo,hyw,hxw];simp) ((sA hr).2 t1) t3,hyw,hxw]) k (Nat.le_refl _)
    generalize nmRow (λo=>tgt P r (tab d.Next q ((o * m+ii:Nat):Int))) F k=G at *
    have e1:=hC.inl
    have e2:=hC.nxl
    rw[decide_eq_true (show(i:Int)<(F.length:Int) by omega),cond_true,cond_true,bG,hx,gs,gs,hv,gs,gs,gs,gs,hy,gs,gs,hu,gs,gs]
    unfold eD
    rw[ek (dE hs).1,jS hs,hm,gs,gs,gs,hnz,gs,gs,sh1,gs,sh2,hrk,gs,hk0,c1,c2,gs,gs,bK,bK,hin]
    dsimp only
    rw[app1 (xs:=In) (by omega) rfl,gs,gs,app1 (xs:=Nx) (by omega) rfl,gs,gs,wr' (by omega) (by omega)]
    have hl1:=hN.len
    refine⟨_,_,rfl,rfl,⟨rfl,i+1,by dsimp only;omega,⟨by dsimp only;omega,hN.nm,hN.all,hN.pre 0 _ hC.zero,by dsimp only;rw[vK,e1];rfl,by dsimp only;rw[vK,e2];rfl,λa ha=>?_,λrow hrow'=>?_⟩⟩,?_⟩
    · rcases vS.1 ha with ha | ha
      · exact hC.inr a ha
      · rw[vL.1 ha];omega
    · rcases vS.1 hrow' with hr' | hr'
      · obtain⟨b1,b2⟩:=hC.nxr row hr'
        exact⟨b1,λx hx=>by have:=b2 x hx;dsimp only;omega⟩
      · rw[vL.1 hr']
        exact⟨hN.rl,hN.rin⟩
    · dsimp only;omega
  · have hil:=hC.il
    have:i=F.length:=by omega
    subst this
    rw[decide_eq_false (show ¬((F.length:Nat):Int)<(F.length:Int) by omega),cond_false,cond_false]
    exact⟨_,_,rfl,rfl,rfl,hC⟩) (2 ^ 64) (2 ^ 64) ([0],0,[],[]) ([0],0,[],[]) (by dsimp only;omega) (by dsimp only;omega) ⟨rfl,0,rfl,⟨by simp,⟨by simp,λx hx=>by rw[vL.1 hx];omega⟩,λx hx=>by rw[vL.1 hx];exact⟨h0,hz0⟩,rfl,rfl,rfl,λx hx=>(by cases hx),λx hx=>(by cases hx)⟩⟩
 match o,t,w3 with
 | .inr s,.inr t,⟨e,hC⟩=>
  subst e
  exact⟨s,w1,w2,hC⟩
end
end Go.Proofs.YtpcjbkgbnoocaaaGreat
set_option linter.unusedVariables false
set_option linter.unusedSimpArgs false
namespace Go.Proofs.YtpcjbkgbnoocaaaGreat
open Go Go.Wk Go.Proofs
def noRiv:Rival:=⟨[],[]⟩
theorem oA (p:Sig){cs:List Clause}(hb:∀c∈cs,Clause.bd c):(fP p cs=some (noRiv,false)/\fO p cs=some (noRiv,false)) \/
 ∃(N m k:Nat) (F In:List Int) (Nx:List (List Int)) (Q:Int->Prop),Ctr N m k Q F F.length In Nx/\N<=256/\sigOk p=true/\pw p.In=(m:Int)/\pw p.Out=(k:Int)/\fP p cs=some (⟨In,Nx⟩,true)/\fO p cs=some (⟨In,Nx⟩,true):=by
 unfold fP fO
 rcases setup p hb with ⟨h1,h2⟩ | ⟨d,A,h1,h2,S2,⟨r1,r2⟩ | ⟨n,m,k,P,g,W,pk,S⟩⟩
 · left
   simp only[h1,h2,gs,t8,tO]
   exact⟨rfl,rfl⟩
 · left
   simp only[h1,h2,S2.sC,S2.iC,r1,r2,gs,vJ,cond_false]
   exact⟨rfl,rfl⟩
 · simp only[h1,h2,S.sC,S.iC,S.sR,S.iR,S.iW,S.won,S.sS,gs,vJ,cond_false]
   cases hw:wB W 0 with
   | false=>
    left
    exact⟨rfl,rfl⟩
   | true=>
    right
    obtain⟨s,w1,w2,hC⟩:=qi (wn:=wonL g.Prio.length W) S.sig S.cx S.im S.ok hw
    obtain⟨_,_,_,l4,_⟩:=S.cx.len
    refine⟨P.length,m,k,s.1,s.2.2.1,s.2.2.2,_,hC,l4,S.sig,S.im,S.ok,?_,?_⟩
    · show(ds (whileM (c9 p (d,true) (g,P,true) ⟨wonL g.Prio.length W,pk⟩) (2 ^ 64) ([0],0,[],[])) _)=_
      rw[w1];rfl
    · show(ds (g7 p d g P) _)=_
      unfold g7
      rw[S.iS,gs,w2];rfl
end Go.Proofs.YtpcjbkgbnoocaaaGreat
set_option linter.unusedVariables false
set_option linter.unusedSimpArgs false
namespace Go.Proofs.YtpcjbkgbnoocaaaGreat
open Go Go.Wk Go.Proofs
section
variable {xs:List Pair}{n:Int}(h0:0<=n) (h1:n<=256) (hb:∀x∈xs,x.Ask.length<=1000000000/\x.Give.length<=1000000000)
include h0 h1 hb
omit h0 h1 in
theorem kU:fK xs n=some (pairsOk xs n):=by
 unfold fK pairsOk
 rw[cI (f:=ff xs n) (r:=false) (pairOk n) (xs:=xs) rfl (λi x hx=>by
  obtain⟨b1,b2⟩:=hb x (t0 hx)
  unfold ff pairOk
  rw[bG,hx]
  simp only[gs,i8 b1,i8 b2]
  cases setOk n x.Ask <;> cases setOk n x.Give <;> rfl)]
 cases xs.all (pairOk n) <;> simp[aft]
end
end Go.Proofs.YtpcjbkgbnoocaaaGreat
set_option linter.unusedVariables false
set_option linter.unusedSimpArgs false
namespace Go.Proofs.YtpcjbkgbnoocaaaGreat
open Go Go.Wk Go.Proofs
section
variable {p:Sig}{d:Det}(hs:sigOk p=true) (hb:∀x∈d.Pairs,x.Ask.length<=1000000000/\x.Give.length<=1000000000)
include hs hb
theorem rm:lJ p d=some (detOk p d):=by
 unfold lJ detOk
 simp only[ov,orE,gs]
 rw[← Bool.not_and]
 cases h1:(decide (1<=(d.Next.length:Int))&&decide ((d.Next.length:Int)<=48)) with
 | false=>rfl
 | true=>
  simp only[vI,decide_eq_true_eq]at h1
  rw[cI (f:=jc p d) (r:=false) (detRow p d.Next.length) (xs:=d.Next) rfl (λi row hx=>by
   unfold jc detRow
   rw[bG,hx]
   simp only[gs,nE hs,nQ,bne]
   cases((row.length:Int)==ltd p) <;> cases row.all (inR d.Next.length) <;> rfl),kU hb]
  simp only[vJ,cond_false,gs,Bool.true_and]
  cases d.Next.all (detRow p d.Next.length) <;> cases pairsOk d.Pairs d.Next.length <;> rfl
end
end Go.Proofs.YtpcjbkgbnoocaaaGreat
set_option linter.unusedVariables false
set_option linter.unusedSimpArgs false
namespace Go.Proofs.YtpcjbkgbnoocaaaGreat
open Go Go.Wk Go.Proofs
theorem uc {n:Nat}(h:n<=256):mr (n:Int)=some (firstR n):=by
 unfold mr
 obtain⟨o,w1,w2⟩:=cw (f:=jk (n:Int)) (λj (s:List Int×Int)=>s=(firstR j,(j:Int))/\j<=n) (λ_=>False) (λs=>s.1=firstR n) n (λj s ⟨e,hj⟩=>by
  subst e
  unfold jk
  dsimp only
  by_cases hlt:j<n
  · rw[decide_eq_true (show(j:Int)<(n:Int) by omega),cond_true,decide_eq_true (show(n:Int)<=256 by omega),gs,cond_true,app1 (by unfold firstR;rw[vV,List.length_range];omega) rfl,gs,wr' (by omega) (by omega)]
    exact⟨_,rfl,hlt,by unfold firstR;rw[List.range_succ,List.map_append];rfl,by omega⟩
  · have:j=n:=by omega
    subst this
    rw[decide_eq_false (show ¬((j:Nat):Int)<(j:Int) by omega),cond_false,gs,cond_false]
    exact⟨_,rfl,rfl⟩) (2 ^ 64) 0 ([],0) (by omega) ⟨rfl,Nat.zero_le _⟩ (by omega)
 match o,w2 with
 | .inr s,e=>rw[w1,gs,bK,e]
theorem lK {n i:Nat}(h:i<n):(firstR n)[i]? =some (i:Int):=by
 unfold firstR
 rw[List.getElem?_map,List.getElem?_range h];rfl
theorem ub {n:Nat}(h:n<=256):kN (n:Int) (firstR n)=some (sh n true):=by
 unfold kN
 have hl:(firstR n).length=n:=by unfold firstR;rw[vV,List.length_range]
 rw[cE (by omega) rfl,gs,hl]
 obtain⟨s,h1,h2,h3⟩:=ca (f:=iD (firstR n)) (λj (s:List Bool)=>s.length=n/\∀i:Nat,i<j->s[i]? =some true) n (s:=sh n false) ⟨by simp,λi hi=>absurd hi (Nat.not_lt_zero i)⟩ (λj s hj ⟨a1,a2⟩=>by
  have hx:s[j]? =some (s[j]'(by omega)):=hV (by omega)
  unfold iD
  rw[bG,lK hj,gs,bG,hx,gs,mw (by omega),gs]
  refine⟨_,rfl,by rw[List.length_set];exact a1,λi hi=>?_⟩
  by_cases e:i=j
  · subst e
    exact List.getElem?_set_self (by omega)
  · rw[List.getElem?_set_ne (by omega)]
    exact a2 i (by omega))
 rw[h1,gs,bK]
 congr 1
 apply List.ext_getElem?
 intro i
 rw[vG]
 by_cases hi:i<n
 · rw[if_pos hi];exact h3 i hi
 · rw[if_neg hi];exact List.getElem?_eq_none (by omega)
theorem rt {g:Parity}(hp:parityOk g=true){W:Int->Prop}(hW:eY g=some (wonL g.Prio.length W)):∃even odd,lC g=some (firstR g.Prio.length)/\mR g (firstR g.Prio.length)=some (even,odd)/\gY even 0=some (!(wB W 0)):=by
 have h:=GOk.of hp
 have hn:=h.n256
 obtain⟨h1,h2,h3,h4,h5⟩:=cU hp
 have hN1:1<=g.Prio.length:=by omega
 have hl:(firstR g.Prio.length).length=g.Prio.length:=by unfold firstR;rw[vV,List.length_range]
 obtain⟨P,p1,p2⟩:=qn h
 have hall:lC g=some (firstR g.Prio.length):=by
  unfold lC
  rw[uc hn];rfl
 -- the set of the winner
 have hN:=kB h (lG hp)
 have hg:=sI h P
 have hA:In (sh g.Prio.length true)=λv:Int=>0<=v/\v<g.Prio.length:=funext λv=>propext (rZ v)
 have hwf:=h.wfS p2 (k:=sh g.Prio.length (-1)) (by simp)
 obtain⟨R,r1,r2,_⟩:=tY hwf h.pri g.Prio.length (sh g.Prio.length true) (2 ^ 64) (by simp) (by rw[hA,hg];exact hN) (by have:=oo (sh g.Prio.length true);simp at this;exact this) (by omega)
 have hR:wonL g.Prio.length W=R.map λb=>b2i (!b):=by
  unfold eY at hW
  rw[p1,gs,tS h,gs,r1,gs]at hW
  obtain⟨s,k1,k2⟩:=ca (f:=fI R) (λj s=>s=(R.take j).map λb=>b2i (!b)) R.length (s:=[]) rfl (λj s hj e=>by
   subst e
   have hx:R[j]? =some R[j]:=hV hj
   generalize R[j]=b at hx
   have hf:eb b=some (b2i b):=by cases b <;> rfl
   unfold fI
   rw[bG,hx,gs,hf,gs,j8,app1 (by rw[vV,vO];omega) rfl]
   exact⟨_,rfl,by rw[vT,hx,List.map_append];rfl⟩)
  rw[k1,k2,gs,bK,List.take_length]at hW
  exact(Option.some.inj hW).symm
 have hR0:R[0]? =some (!(wB W 0)):=by
  have e:=jz (W:=W) (n:=g.Prio.length) (v:=0) ⟨Int.le_refl _,by omega⟩
  have hx:R[0]? =some (R[0]'(by omega)):=hV (by omega)
  rw[hR,show(0:Int)=((0:Nat):Int) from rfl,bG,List.getElem?_map,hx]at e
  rw[hx]
  generalize R[0]'(by omega)=b at e
  have e:=Option.some.inj e
  revert e
  show b2i (!b)=b2i (wB W 0)->_
  cases b <;> cases wB W 0 <;> first | (intro _;rfl) | (intro e;exact absurd e (by decide))
 have hset:iM (firstR g.Prio.length) (g.Prio.length:Int)=some true:=by
  unfold iM
  rw[cV,iX (by omega) (by omega) (by omega),eh.2 ⟨λx hx=>by
   obtain⟨i,hi⟩:=List.getElem?_of_mem hx
   have hlt:=(it.1 hi).1
   rw[lK (by omega)]at hi
   cases hi
   omega,by
   unfold firstR
   refine List.pairwise_map.2 (List.Pairwise.imp (λ{a b} hab=>?_) List.pairwise_lt_range)
   show(a:Int)<(b:Int)
   omega⟩,decide_eq_true (show(0:Int)<=(g.Prio.length:Int) by omega),decide_eq_true (show(g.Prio.length:Int)<=256 by omega)]
  rfl
 have hdeg:∀v:Nat,v<g.Prio.length->∃z,fJ ⟨g.Arena.Owner,g.Prio,g.Arena.Next,P,sh g.Prio.length (-1)⟩ (sh g.Prio.length true) (v:Int)=some z/\(z==0)=false:=λv hv=>by
  have hd:=qG hwf (B:=sh g.Prio.length true) (by simp) (v:=(v:Int)) (by omega) (by omega)
  refine⟨_,hd,?_⟩
  have hr:g.Arena.Next[v]? =some (g.Arena.Next[v]'(by omega)):=hV (by omega)
  obtain⟨q1,_,q3⟩:=h5 v _ hr
  generalize g.Arena.Next[v]'(by omega)=row at hr q1 q3
  have hrow:rowS (⟨g.Arena.Owner,g.Prio,g.Arena.Next,P,sh g.Prio.length (-1)⟩:l7Game) (v:Int)=row.filter (okE (-1)):=nY (by rw[bG];exact hr) (by rw[bG,vG,if_pos hv])
  rw[beq_eq_false_iff_ne]
  intro e
  have e0:lf (rowS (⟨g.Arena.Owner,g.Prio,g.Arena.Next,P,sh g.Prio.length (-1)⟩:l7Game) (v:Int)) (In (sh g.Prio.length true)) (λ_=>False)=0:=by omega
  rw[pK,hrow]at e0
  have hx:row[0]? =some (row[0]'(by omega)):=hV (by omega)
  have hm:=t0 hx
  obtain⟨u0,u1⟩:=(eh.1 q3).1 _ hm
  exact e0 _ (List.mem_filter.2 ⟨hm,rfl⟩) ((rZ _).2 ⟨u0,by omega⟩)
 obtain⟨s,w1,w2,w3,w4⟩:=ca (f:=iU (firstR g.Prio.length) R) (λj (s:List Int×List Int)=>s.1.length<=j/\s.2.length<=j/\∀z,z∈s.1↔∃i:Nat,i<j/\z=(i:Int)/\R[i]? =some true) g.Prio.length (s:=([],[])) ⟨by simp,by simp,λz=>by simp⟩ (λj s hj ⟨a1,a2,a3⟩=>by
  have hx:R[j]? =some (R[j]'(by omega)):=hV (by omega)
  generalize R[j]'(by omega)=b at hx
  unfold iU
  rw[bG,lK hj,gs,bG,hx,gs]
  cases b with
  | true=>
   rw[cond_true,gs,app1 (by omega) rfl]
   refine⟨_,rfl,by dsimp only;rw[vK];simp;omega,by dsimp only;omega,λz=>?_⟩
   dsimp only
   rw[vS,vL,a3]
   constructor
   · rintro(⟨i,h1,h2⟩ | e)
     · exact⟨i,by omega,h2⟩
     · exact⟨j,by omega,e,hx⟩
   · rintro⟨i,h1,h2,h3⟩
     by_cases e:i=j
     · subst e;exact .inr h2
     · exact .inl ⟨i,by omega,h2,h3⟩
  | false=>
   rw[cond_false,gs,app1 (by omega) rfl]
   refine⟨_,rfl,by dsimp only;omega,by dsimp only;rw[vK];simp;omega,λz=>?_⟩
   dsimp only
   rw[a3]
   constructor
   · rintro⟨i,h1,h2⟩
     exact⟨i,by omega,h2⟩
   · rintro⟨i,h1,h2,h3⟩
     by_cases e:i=j
     · subst e;rw[hx]at h3;cases h3
     · exact⟨i,by omega,h2,h3⟩)
 refine⟨s.1,s.2,hall,?_,?_⟩
 · unfold mR
   rw[jU,hp,gs,vJ,cond_false,hset,gs,gs,vJ,cond_false,p1,gs,ub hn,gs]
   rw[cI (f:=ju (firstR g.Prio.length) ⟨g.Arena.Owner,g.Prio,g.Arena.Next,P,sh g.Prio.length (-1)⟩ (sh g.Prio.length true)) (r:=([],[])) (λ_=>true) (xs:=firstR g.Prio.length) rfl (λi v hv=>by
    have hlt:=(it.1 hv).1
    rw[hl]at hlt
    have hv':=hv
    rw[lK hlt]at hv'
    cases hv'
    obtain⟨z,z1,z2⟩:=hdeg i hlt
    unfold ju
    rw[bG,hv,gs,z1,gs,z2];rfl)]
   rw[show((firstR g.Prio.length).all λ_=>true)=true from by simp,if_pos rfl,gs,bK,r1,gs,hl,w1,gs,bK]
 · rw[oJ]
   congr 1
   rw[Bool.eq_iff_iff,decide_eq_true_eq,w4]
   constructor
   · rintro⟨i,h1,h2,h3⟩
     have:i=0:=by omega
     subst this
     rw[hR0]at h3
     exact Option.some.inj h3
   · intro e
     exact⟨0,by omega,rfl,by rw[hR0,e]⟩
theorem nj (p:Sig){cs:List Clause}(hb:∀c∈cs,Clause.bd c):∃b,fw p cs=some b/\fh p cs=some b:=by
 unfold fw fh
 rcases setup p hb with ⟨h1,h2⟩ | ⟨d,A,h1,h2,S2,hR⟩
 · rw[h1,h2]
   exact⟨false,rfl,rfl⟩
 · rw[h1,h2,gs,gs,cond_true,cond_true]
   have hsD:gt p d=some true:=by rw[ik S2.sig S2.pb,S2.det]
   have hiD:lJ p d=some true:=by rw[rm S2.sig S2.pb,S2.det]
   have hiA:gK A=some true:=by rw[mO,S2.aok]
   have hiP:fK d.Pairs (A.Owner.length:Int)=some true:=by rw[kU S2.pb,S2.pok]
   have hiV:ir A 0=some true:=by
    unfold ir kG
    have:=S2.a1
    rw[decide_eq_true (Int.le_refl 0),cond_true,gs,decide_eq_true (by omega)];rfl
   have hs:gg p d=ds (kI p d 0) λx11=>some x11:=by
    unfold gg
    rw[hsD];rfl
   have hi:gq p d=ds (fb A d.Pairs 0) λx=>some x:=by
    unfold gq
    rw[og,S2.sig,gs,vJ,cond_false,hiD,gs,gs,vJ,cond_false,S2.iC];rfl
   rw[hs,hi]
   unfold kI fb kG
   rw[S2.sC,hiA]
   simp only[gs,vJ,cond_false,hiP,hiV]
   rcases hR with ⟨r1,r2⟩ | ⟨n,m,k,P,g,W,pk,S⟩
   · rw[r1,r2]
     exact⟨false,rfl,rfl⟩
   · obtain⟨even,odd,e1,e2,e3⟩:=rt S.cx.ok S.sW
     rw[S.sR,S.iR]
     simp only[gs,vJ,cond_false,e1,e2,e3,S.iW,S.won]
     have hf:eb (!(wB W 0))=some (b2i (!(wB W 0))):=by cases wB W 0 <;> rfl
     rw[hf,gs,gs,j8,Bool.not_not]
     exact⟨_,rfl,rfl⟩
theorem ph (p:Sig){cs:List Clause}(hb:∀c∈cs,Clause.bd c):∃r,gP p cs=some r/\gL p cs=some r:=by
 obtain⟨b,h1,h2⟩:=nj p hb
 unfold gP gL
 rw[h1,h2,gs,gs]
 cases b with
 | true=>exact⟨_,rfl,rfl⟩
 | false=>
  rw[cond_false,cond_false]
  rcases oA p hb with ⟨c1,c2⟩ | ⟨N,m,k,F,In,Nx,Q,_,_,_,_,_,c1,c2⟩
  · rw[c1,c2];exact⟨_,rfl,rfl⟩
  · rw[c1,c2];exact⟨_,rfl,rfl⟩
theorem FnExactEitherOf_law {p0:Sig}(ok0:Sig.ok p0){p1:(List Clause)}(ok1:(okS Clause.ok) p1):de p0 p1=some true:=
 FnExactEitherOf_of ok0 ok1 λh0=>ph p0 h0.2
end Go.Proofs.YtpcjbkgbnoocaaaGreat
