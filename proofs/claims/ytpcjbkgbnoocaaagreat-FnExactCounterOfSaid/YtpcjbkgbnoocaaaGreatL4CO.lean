/- A sorted row without equal neighbours. Plain law. -/
import Derived.Test.YtpcjbkgbnoocaaaGreatL0CO
import Derived.Test.YtpcjbkgbnoocaaaGreatL3CO
import Derived.Test.YtpcjbkgbnoocaaaGreatL1CO
set_option linter.unusedVariables false
set_option linter.unusedSimpArgs false
open Option renaming bind_some → bA
open List renaming getElem?_eq_getElem → bE, getElem?_eq_some_iff → bF, replicate → ds, mem_of_getElem? → gs, getElem?_replicate → t0, length_append → vy, mem_singleton → vz, length_nil → vD, mem_append → vG, length_map → vJ
open Bool renaming and_eq_true → t9, not_true → vx
namespace Go.Proofs.YtpcjbkgbnoocaaaGreat
open Go Go.Wk Go.Proofs
theorem mj {zs:List Int}{j:Nat}(h:j<zs.length):zs.toArray[j]! =zs[j]:=by
 rw[getElem!_pos _ j (by simpa using h)]
 simp
theorem mh {zs:List Int}(h:zs.Pairwise (·<=·)):∀m:Nat,m<=zs.length->Asc (Lib.compactUpTo zs.toArray m)/\∀z,z∈Lib.compactUpTo zs.toArray m↔∃j:Nat,j<m/\zs[j]? =some z
 | 0,_=>⟨by simp[Lib.compactUpTo,Asc],λz=>by simp[Lib.compactUpTo]⟩
 | m+1,hm=>by
  obtain⟨a1,a2⟩:=mh h m (by omega)
  have hmono:∀(i j:Nat) (hi:i<zs.length) (hj:j<zs.length),i<=j->zs[i]<=zs[j]:=λi j hi hj hij=>by
   rcases Nat.lt_or_ge i j with c | c
   · exact(List.pairwise_iff_getElem.1 h) i j hi hj c
   · have:i=j:=by omega
     subst this
     exact Int.le_refl _
  rw[Lib.compactUpTo_succ,mj (show m<zs.length by omega)]
  have e1:zs[m]? =some zs[m]:=bE (by omega)
  cases hk:Lib.keeps zs.toArray m with
  | true=>
   rw[if_pos rfl]
   refine⟨List.pairwise_append.2 ⟨a1,List.pairwise_singleton ..,λx hx y hy=>?_⟩,λz=>?_⟩
   · rw[vz.1 hy]
     obtain⟨j,j1,j2⟩:=(a2 x).1 hx
     rw[bE (show j<zs.length by omega)]at j2
     have hx:=Option.some.inj j2
     have hne:zs[m]≠zs[m-1]'(by omega):=λe=>by
      unfold Lib.keeps at hk
      rw[decide_eq_true_eq,mj (show m<zs.length by omega),mj (show m-1<zs.length by omega)]at hk
      rcases hk with hk | hk
      · omega
      · exact hk e
     have l1:=hmono j (m-1) (by omega) (by omega) (by omega)
     have l2:=hmono (m-1) m (by omega) (by omega) (by omega)
     omega
   · rw[vG,vz,a2]
     constructor
     · rintro(⟨j,j1,j2⟩ | rfl)
       · exact⟨j,by omega,j2⟩
       · exact⟨m,by omega,e1⟩
     · rintro⟨j,j1,j2⟩
       by_cases e:j=m
       · subst e
         rw[e1]at j2
         exact .inr (Option.some.inj j2).symm
       · exact .inl ⟨j,by omega,j2⟩
  | false=>
   rw[if_neg (by simp),List.append_nil]
   refine⟨a1,λz=>?_⟩
   rw[a2]
   constructor
   · rintro⟨j,j1,j2⟩
     exact⟨j,by omega,j2⟩
   · rintro⟨j,j1,j2⟩
     by_cases e:j=m
     · subst e
       have hk':¬(j=0\/zs.toArray[j]!≠zs.toArray[j-1]!):=λhh=>by
        unfold Lib.keeps at hk
        rw[decide_eq_true hh]at hk
        cases hk
       rw[mj (show j<zs.length by omega),mj (show j-1<zs.length by omega)]at hk'
       have h0:j≠0:=λe=>hk' (.inl e)
       have h1:zs[j]=zs[j-1]'(by omega):=Classical.byContradiction λe=>hk' (.inr e)
       refine⟨j-1,by omega,?_⟩
       rw[bE (show j-1<zs.length by omega),← h1,← e1,j2]
     · exact⟨j,by omega,j2⟩
theorem qG {zs:List Int}(h:zs.Pairwise (·<=·)):Asc (Lib.compact zs)/\∀z,z∈Lib.compact zs↔z∈zs:=by
 obtain⟨a,b⟩:=mh h zs.length (Nat.le_refl _)
 refine⟨a,λz=>?_⟩
 unfold Lib.compact
 rw[b]
 constructor
 · rintro⟨j,_,h⟩;exact gs h
 · intro hz
   obtain⟨j,hj⟩:=List.getElem?_of_mem hz
   exact⟨j,(bF.1 hj).1,hj⟩
end Go.Proofs.YtpcjbkgbnoocaaaGreat
set_option linter.unusedVariables false
set_option linter.unusedSimpArgs false
namespace Go.Proofs.YtpcjbkgbnoocaaaGreat
open Go Go.Wk Go.Proofs
theorem kP {p:Sig}(hs:sigOk p=true){x o:Int}(x0:0<=x) (x1:x<pw p.In) (o0:0<=o) (o1:o<pw p.Out):gQ p x o=some (o * pw p.In+x):=by
 have pI:=kA p.In
 have pO:=kA p.Out
 obtain⟨hi,ho⟩:=d4 hs
 have hmul:0<=o * pw p.In:=Int.mul_nonneg o0 (by omega)
 have hmul2:o * pw p.In<=4 * 4:=Int.mul_le_mul (by omega) (by omega) (by omega) (by omega)
 unfold gQ
 simp only[eE,hs,bA,vx,cond_false,d6 hi,d6 ho]
 rw[wr' (z:=pw p.In-1) (by omega) (by omega),wr' (z:=pw p.Out-1) (by omega) (by omega),wr' (z:=o * pw p.In) (by omega) (by omega),wr' (by omega) (by omega)]
 simp only[c7,se,bA,fV.2 ⟨x0,x1⟩,fV.2 ⟨o0,o1⟩,vx,cond_false]
end Go.Proofs.YtpcjbkgbnoocaaaGreat
set_option linter.unusedVariables false
set_option linter.unusedSimpArgs false
namespace Go.Proofs.YtpcjbkgbnoocaaaGreat
open Go Go.Wk Go.Proofs
theorem jH {p:Sig}(hs:sigOk p=true):fH p=some (pw p.In):=by
 obtain⟨hi,_⟩:=d4 hs
 unfold fH
 rw[(nD hi).1,bA,(nD hi).2]
end Go.Proofs.YtpcjbkgbnoocaaaGreat
set_option linter.unusedVariables false
set_option linter.unusedSimpArgs false
namespace Go.Proofs.YtpcjbkgbnoocaaaGreat
open Go Go.Wk Go.Proofs
theorem lS:∀{xs ys:List Int},xs.Nodup->(∀x∈xs,x∈ys)->xs.length<=ys.length
 | [],_,_,_=>Nat.zero_le _
 | x::xs,ys,hn,h=>by
  obtain⟨h1,h2⟩:=List.nodup_cons.1 hn
  have hx:=h x (List.mem_cons_self ..)
  have:=lS (ys:=ys.erase x) h2 λz hz=>(List.mem_erase_of_ne (λe=>h1 (by rw[← e];exact hz))).2 (h z (List.mem_cons_of_mem _ hz))
  have h3:=List.length_pos_of_mem hx
  rw[List.length_erase_of_mem hx]at this
  simp only[List.length_cons]
  omega
theorem ve {m q q' i i':Nat}(hi:i<m) (hi':i'<m) (h:q * m+i=q' * m+i'):q=q'/\i=i':=by
 have hlt:∀{a b:Nat},a<b->a * m+m<=b * m:=λ{a b} h=>by
  have:=Nat.mul_le_mul_right m (show a+1<=b by omega)
  rwa [Nat.add_mul,Nat.one_mul]at this
 by_cases h1:q<q'
 · have:=hlt h1;omega
 · by_cases h2:q'<q
   · have:=hlt h2;omega
   · have:q=q':=by omega
     subst this
     exact⟨rfl,by omega⟩
theorem pl {n m q i:Nat}(hq:q<n) (hi:i<m):q * m+i<n * m:=by
 have:=Nat.mul_le_mul_right m (show q+1<=n by omega)
 rw[Nat.add_mul,Nat.one_mul]at this
 omega
def SuccR (d:Det) (m k q i:Nat) (r:List Int):Prop:=Asc r/\∀z,z∈r↔∃o:Nat,o<k/\z=tab d.Next q ((o * m+i:Nat):Int)
theorem SuccR.uniq {d:Det}{m k q i:Nat}{r r':List Int}(h:SuccR d m k q i r) (h':SuccR d m k q i r'):r=r':=p4 h.1 h'.1 λz=>by rw[h.2,h'.2]
def rowQ (n m q:Nat):List Int:=(List.range m).map λi=>((n+q * m+i:Nat):Int)
structure ConA (d:Det) (n m k:Nat) (A:Arena):Prop where
 ol:A.Owner=ds n 1++ds (n * m) 0
 nl:A.Next.length=n+n * m
 r1:∀q:Nat,q<n->A.Next[q]? =some (rowQ n m q)
 r0:∀q i:Nat,q<n->i<m->∃r,A.Next[n+(q * m+i)]? =some r/\SuccR d m k q i r
section
variable {d:Det}{n m k:Nat}(hn:n<=48) (hn1:1<=n) (hm1:1<=m) (hm:m<=4) (hk1:1<=k) (hk:k<=4) (hd:d.Next.length=n) (hD:∀row∈d.Next,RowIn (n:Int) ((m * k:Nat):Int) row)
include hn hn1 hm1 hm hk1 hk hd hD
omit hn hn1 hk1 hk in
theorem ma {q i o:Nat}(hq:q<n) (hi:i<m) (ho:o<k):∃row,idx d.Next (q:Int)=some row/\idx row ((o * m+i:Nat):Int)=some (tab d.Next q ((o * m+i:Nat):Int))/\0<=tab d.Next q ((o * m+i:Nat):Int)/\tab d.Next q ((o * m+i:Nat):Int)<(n:Int):=by
 have h1:=pl (n:=k) ho hi
 have h2:k * m=m * k:=Nat.mul_comm _ _
 exact r6 hD (by omega) (by omega) (by omega) (by omega)
theorem vj {A:Arena}(h:ConA d n m k A):arenaOk A=true:=by
 have hnm:n * m<=48 * 4:=Nat.mul_le_mul hn hm
 have hol:A.Owner.length=n+n * m:=by rw[h.ol];simp
 have hnl:=h.nl
 unfold arenaOk
 simp only[t9,decide_eq_true_eq,beq_iff_eq]
 refine⟨⟨⟨by omega,by omega⟩,by omega⟩,?_⟩
 rw[List.all_eq_true]
 rintro⟨row,j⟩ hx
 have hx:=List.mem_zipIdx_iff_getElem?.1 hx
 dsimp only at hx ⊢
 have hlt:=(bF.1 hx).1
 unfold vertOk
 by_cases hj:j<n
 · have ho:A.Owner[j]? =some 1:=by
    rw[h.ol,List.getElem?_append_left (by simpa using hj),t0,if_pos hj]
   rw[h.r1 j hj]at hx
   cases hx
   have hl:(rowQ n m j).length=m:=by unfold rowQ;rw[vJ,List.length_range]
   have hs:setOk (A.Owner.length:Int) (rowQ n m j)=true:=by
    refine fO.2 ⟨λx hx=>?_,?_⟩
    · unfold rowQ at hx
      obtain⟨i,hi,e⟩:=List.mem_map.1 hx
      have:=List.mem_range.1 hi
      have:=pl (n:=n) (m:=m) hj this
      omega
    · unfold rowQ
      refine List.pairwise_map.2 (List.Pairwise.imp (λ{a b} hab=>?_) List.pairwise_lt_range)
      omega
   rw[ho,hs,hl]
   simp only[Bool.and_true,t9,decide_eq_true_eq]
   exact⟨⟨by decide,by omega⟩,by omega⟩
 · have hjm:j-n<n * m:=by omega
   have hq:(j-n) / m<n:=(Nat.div_lt_iff_lt_mul (by omega)).2 hjm
   have hi:(j-n) % m<m:=Nat.mod_lt _ (by omega)
   have e:(j-n) / m * m+(j-n) % m=j-n:=by rw[Nat.mul_comm];exact Nat.div_add_mod _ _
   obtain⟨r,r1,r2,r3⟩:=h.r0 _ _ hq hi
   rw[e,show n+(j-n)=j by omega,hx]at r1
   cases r1
   have ho:A.Owner[j]? =some 0:=by
    rw[h.ol,List.getElem?_append_right (by simp;omega),List.length_replicate,t0,if_pos hjm]
   have hin:∀x∈row,0<=x/\x<(n:Int):=λx hx=>by
    obtain⟨o,ho,e⟩:=(r3 x).1 hx
    obtain⟨_,_,_,a,b⟩:=ma hm1 hm hd hD hq hi ho
    rw[e];exact⟨a,b⟩
   have hs:setOk (A.Owner.length:Int) row=true:=fO.2 ⟨λx hx=>by have:=hin x hx;omega,r2⟩
   have hne:1<=row.length:=List.length_pos_of_mem ((r3 _).2 ⟨0,by omega,rfl⟩)
   have hle:row.length<=k:=by
    -- each is one of k
    have h3:=lS (ys:=(List.range k).map λo=>tab d.Next ((j-n) / m:Nat) ((o * m+(j-n) % m:Nat):Int)) (gF r2) λz hz=>by
     obtain⟨o,ho,e⟩:=(r3 z).1 hz
     exact List.mem_map.2 ⟨o,List.mem_range.2 ho,e.symm⟩
    rwa [vJ,List.length_range]at h3
   rw[ho,hs]
   simp only[Bool.and_true,t9,decide_eq_true_eq]
   exact⟨⟨by decide,by omega⟩,by omega⟩
end
end Go.Proofs.YtpcjbkgbnoocaaaGreat
set_option linter.unusedVariables false
set_option linter.unusedSimpArgs false
namespace Go.Proofs.YtpcjbkgbnoocaaaGreat
open Go Go.Wk Go.Proofs
theorem rq {p:Sig}(hs:sigOk p=true):eO p=some (pw p.In):=by
 unfold eO
 rw[d6 (d4 hs).1];rfl
section
variable {p:Sig}{d:Det}(hs:sigOk p=true){n m k:Nat}(hn:n<=48) (hn1:1<=n) (hm:pw p.In=(m:Int)) (hk:pw p.Out=(k:Int)) (hd:d.Next.length=n) (hD:∀row∈d.Next,RowIn (n:Int) ((m * k:Nat):Int) row)
include hs hn hm hk hd hD
omit hn in
theorem tX {q i:Nat}(hq:q<n) (hi:i<m):∃r,jg p d q i=some r/\SuccR d m k q i r:=by
 have m1:=kA p.In
 have k1:=kA p.Out
 unfold jg
 obtain⟨o,w1,w2⟩:=cB (f:=eZ p d q i) (λj (s:List Int×Int)=>s.2=(j:Int)/\j<=k/\Asc s.1/\s.1.length<=j/\∀z,z∈s.1↔∃o:Nat,o<j/\z=tab d.Next q ((o * m+i:Nat):Int)) (λ_=>False) (λs=>SuccR d m k q i s.1) k (λj s ⟨e1,hj,a1,a2,a3⟩=>by
  obtain⟨xs,o⟩:=s
  dsimp only at e1 a1 a2 a3
  subst e1
  unfold eZ
  rw[d6 (d4 hs).2,bA,hk]
  dsimp only
  by_cases hlt:j<k
  · obtain⟨row,r1,r2,_⟩:=ma (d:=d) (k:=k) (by omega) (by omega) hd hD hq hi hlt
    obtain⟨R,t1,t2,t3⟩:=tl a1 (tab d.Next q ((j * m+i:Nat):Int)) (by omega)
    have hlet:=kP hs (x:=(i:Int)) (o:=(j:Int)) (by omega) (by omega) (by omega) (by omega)
    have e:(j:Int) * (m:Int)+(i:Int)=((j * m+i:Nat):Int):=by simp
    rw[hm,e]at hlet
    rw[decide_eq_true (show(j:Int)<(k:Int) by omega),cond_true,r1,bA,hlet,bA,r2,bA,t1,bA,wr' (by omega) (by omega)]
    have hRl:R.length<=xs.length+1:=lS (ys:=tab d.Next q ((j * m+i:Nat):Int)::xs) (gF t2) λz hz=>by
     rcases(t3 z).1 hz with h | h
     · rw[h];exact List.mem_cons_self ..
     · exact List.mem_cons_of_mem _ h
    refine⟨_,rfl,by omega,by dsimp only;omega,by omega,t2,by dsimp only;omega,λz=>?_⟩
    dsimp only
    rw[t3,a3]
    constructor
    · rintro(h | ⟨o,o1,o2⟩)
      · exact⟨j,by omega,h⟩
      · exact⟨o,by omega,o2⟩
    · rintro⟨o,o1,o2⟩
      by_cases e:o=j
      · subst e;exact .inl o2
      · exact .inr ⟨o,by omega,o2⟩
  · have:j=k:=by omega
    subst this
    rw[decide_eq_false (show ¬((j:Nat):Int)<(j:Int) by omega),cond_false]
    exact⟨_,rfl,a1,a3⟩) (2 ^ 64) 0 ([],0) (by omega) ⟨rfl,Nat.zero_le _,List.Pairwise.nil,Nat.le_refl _,λz=>by simp⟩ (by omega)
 match o,w2 with
 | .inr s,h=>rw[w1];exact⟨s.1,rfl,h⟩
omit hn hs in
theorem ud {q i:Nat}(hq:q<n) (hi:i<m):∃xs r,cntM (dy d (m:Int) q i) k 0 []=some (.inr xs)/\0<xs.length/\xs.length<=4/\ci xs=some (xs.mergeSort λx y=>decide (x<=y))/\cA (xs.mergeSort λx y=>decide (x<=y))=some r/\SuccR d m k q i r:=by
 have m1:=kA p.In
 have k1:=kA p.Out
 obtain⟨xs,h1,h2,h3⟩:=bY (f:=dy d (m:Int) q i) (λj (s:List Int)=>s.length=j/\∀z,z∈s↔∃o:Nat,o<j/\z=tab d.Next q ((o * m+i:Nat):Int)) k (s:=[]) ⟨rfl,λz=>by simp⟩ (λj s hj ⟨a1,a2⟩=>by
  obtain⟨row,r1,r2,_⟩:=ma (d:=d) (k:=k) (by omega) (by omega) hd hD hq hi hj
  have hb:j * m<=4 * 4:=Nat.mul_le_mul (by omega) (by omega)
  have e:(j:Int) * (m:Int)=((j * m:Nat):Int):=by simp
  unfold dy
  rw[r1,bA,e,wr' (z:=((j * m:Nat):Int)) (by omega) (by omega),wr' (by omega) (by omega),show((j * m:Nat):Int)+(i:Int)=((j * m+i:Nat):Int) by omega,r2,bA,app1 (by omega) rfl]
  refine⟨_,rfl,by rw[vy,a1];rfl,λz=>?_⟩
  rw[vG,vz,a2]
  constructor
  · rintro(⟨o,o1,o2⟩ | h)
    · exact⟨o,by omega,o2⟩
    · exact⟨j,by omega,h⟩
  · rintro⟨o,o1,o2⟩
    by_cases e:o=j
    · subst e;exact .inr o2
    · exact .inl ⟨o,by omega,o2⟩)
 have hpw:(xs.mergeSort λx y=>decide (x<=y)).Pairwise (·<=·):=by
  have h:=List.pairwise_mergeSort (le:=λx y:Int=>decide (x<=y)) (λa b c h1 h2=>by simp only[decide_eq_true_eq]at *;omega) (λa b=>by simp only[Bool.or_eq_true,decide_eq_true_eq];omega) xs
  exact h.imp λh=>by simpa using h
 have hml:(xs.mergeSort λx y=>decide (x<=y)).length=xs.length:=List.length_mergeSort ..
 obtain⟨c1,c2⟩:=qG hpw
 refine⟨xs,_,h1,by omega,by omega,?_,?_,c1,λz=>?_⟩
 · unfold ci
   rw[if_pos ⟨by omega,by omega⟩]
 · unfold cA
   rw[if_pos ⟨by omega,by omega⟩]
 · rw[c2,List.mem_mergeSort,h3]
omit hs hk hD in
theorem sL:cntM (dF d (m:Int)) n 0 ([],[])=some (.inr (ds n 1,(List.range n).map (rowQ n m)))/\cntM (dC d (m:Int)) n 0 ([],[])=some (.inr (ds n 1,(List.range n).map (rowQ n m))):=by
 have m1:=kA p.In
 have hr:rng (m:Int)=some ():=by unfold rng;rw[if_pos (by omega)]
 have hin:∀q:Nat,q<n->cntM (dI d (m:Int) q) m 0 []=some (.inr (rowQ n m q))/\cntM (dk d (m:Int) q) m 0 []=some (.inr (rowQ n m q)):=λq hq=>by
  have hb:q * m<=48 * 4:=Nat.mul_le_mul (by omega) (by omega)
  have e:(q:Int) * (m:Int)=((q * m:Nat):Int):=by simp
  have hv:∀j:Nat,j<m->IntKind.i64.wrap (IntKind.i64.wrap ((d.Next.length:Int)+IntKind.i64.wrap ((q:Int) * (m:Int)))+(j:Int))=((n+q * m+j:Nat):Int):=λj hj=>by
   rw[e,wr' (z:=((q * m:Nat):Int)) (by omega) (by omega),wr' (z:=(d.Next.length:Int)+((q * m:Nat):Int)) (by omega) (by omega),wr' (by omega) (by omega)]
   omega
  have hl:∀j:Nat,((List.range j).map λi=>((n+q * m+i:Nat):Int)).length=j:=λj=>by rw[vJ,List.length_range]
  constructor
  · obtain⟨s,h1,h2⟩:=bY (f:=dI d (m:Int) q) (λj s=>s=(List.range j).map λi=>((n+q * m+i:Nat):Int)) m (s:=[]) rfl (λj s hj e=>by
     subst e
     unfold dI
     rw[hv j hj,app1 (by rw[hl];omega) rfl]
     exact⟨_,rfl,by rw[List.range_succ,List.map_append];rfl⟩)
    rw[h1,h2];rfl
  · obtain⟨s,h1,h2⟩:=bY (f:=dk d (m:Int) q) (λj s=>s=(List.range j).map λi=>((n+q * m+i:Nat):Int)) m (s:=[]) rfl (λj s hj e=>by
     subst e
     unfold dk
     rw[hv j hj,app1 (by rw[hl];omega) rfl]
     exact⟨_,rfl,by rw[List.range_succ,List.map_append];rfl⟩)
    rw[h1,h2];rfl
 have hm0:Int.toNat ((m:Int)-0)=m:=by omega
 constructor
 · obtain⟨s,h1,h2⟩:=bY (f:=dF d (m:Int)) (λj s=>s=(ds j 1,(List.range j).map (rowQ n m))) n (s:=([],[])) rfl (λj s hj e=>by
    subst e
    unfold dF
    dsimp only
    rw[hr,bA,hm0,(hin j hj).1,bA,bK,app1 (by simp;omega) rfl,bA,app1 (by simp;omega) rfl,bA]
    exact⟨_,rfl,by rw[List.replicate_succ',List.range_succ,List.map_append];rfl⟩)
   rw[h1,h2]
 · obtain⟨s,h1,h2⟩:=bY (f:=dC d (m:Int)) (λj s=>s=(ds j 1,(List.range j).map (rowQ n m))) n (s:=([],[])) rfl (λj s hj e=>by
    subst e
    unfold dC
    dsimp only
    rw[hr,bA,hm0,(hin j hj).2,bA,bK,app1 (by simp;omega) rfl,bA,app1 (by simp;omega) rfl,bA]
    exact⟨_,rfl,by rw[List.replicate_succ',List.range_succ,List.map_append];rfl⟩)
   rw[h1,h2]
def ConR (d:Det) (n m k c:Nat) (s:List Int×List (List Int)):Prop:=s.1=ds n 1++ds c 0/\∃R,s.2=(List.range n).map (rowQ n m)++R/\R.length=c/\∀q i:Nat,q<n->i<m->q * m+i<c->∃r,R[q * m+i]? =some r/\SuccR d m k q i r
theorem rX:∃s,cntM (di p d (m:Int)) n 0 (ds n 1,(List.range n).map (rowQ n m))=some (.inr s)/\cntM (dx p d (m:Int)) n 0 (ds n 1,(List.range n).map (rowQ n m))=some (.inr s)/\ConR d n m k (n * m) s:=by
 have m1:=kA p.In
 have k1:=kA p.Out
 have hr:rng (m:Int)=some ():=by unfold rng;rw[if_pos (by omega)]
 have hrk:rng (k:Int)=some ():=by unfold rng;rw[if_pos (by omega)]
 have hm0:Int.toNat ((m:Int)-0)=m:=by omega
 have hk0:Int.toNat ((k:Int)-0)=k:=by omega
 obtain⟨sh1,sh2⟩:=nD (d4 hs).2
 rw[hk]at sh2
 have hnm:n * m<=48 * 4:=Nat.mul_le_mul hn (by omega)
 obtain⟨s,t,h1,h2,h3,h4⟩:=py (f:=di p d (m:Int)) (g:=dx p d (m:Int)) (λq s t=>s=t/\ConR d n m k (q * m) s) n (s:=(ds n 1,(List.range n).map (rowQ n m))) (t:=(ds n 1,(List.range n).map (rowQ n m))) ⟨rfl,by rw[Nat.zero_mul];exact⟨by simp,[],by simp,rfl,λq i _ _ h=>absurd h (Nat.not_lt_zero _)⟩⟩ (λq s t hq ⟨e,hC⟩=>by
  subst e
  obtain⟨s',t',g1,g2,g3,g4⟩:=py (f:=dD p d q) (g:=dB p d (m:Int) q) (λi s t=>s=t/\ConR d n m k (q * m+i) s) m (s:=s) (t:=s) ⟨rfl,hC⟩ (λi s t hi ⟨e,hC⟩=>by
   subst e
   obtain⟨c1,R,c2,c3,c4⟩:=hC
   obtain⟨r,r1,r2⟩:=tX hs hm hk hd hD hq hi
   obtain⟨xs,r',x1,x2,x3,x4,x5,x6⟩:=ud hm hk hd hD hq hi
   have:=r2.uniq x6
   subst this
   have hlt:=pl (n:=n) hq hi
   have l1:s.1.length=n+(q * m+i):=by rw[c1];simp
   have l2:s.2.length=n+(q * m+i):=by rw[c2];simp[c3]
   unfold dD dB
   rw[app1 (xs:=s.1) (by omega) rfl,r1,sh1,sh2,hrk,hk0,x1]
   simp only[bA,bK]
   rw[x4,app1 (xs:=s.2) (by omega) rfl]
   simp only[bA]
   rw[x5,bA,app1 (xs:=s.2) (by omega) rfl,bA]
   refine⟨_,_,rfl,rfl,rfl,?_,R++[r],?_,by rw[vy,c3];rfl,λq' i' hq' hi' hlt'=>?_⟩
   · dsimp only
     rw[c1,← Nat.add_assoc,List.replicate_succ',List.append_assoc]
   · dsimp only
     rw[c2,List.append_assoc]
   · by_cases e:q' * m+i'=q * m+i
     · obtain⟨e1,e2⟩:=ve hi' hi e
       subst e1 e2
       exact⟨r,by rw[← c3];simp,r2⟩
     · obtain⟨r0,a,b⟩:=c4 q' i' hq' hi' (by omega)
       exact⟨r0,by rw[List.getElem?_append_left (by omega)];exact a,b⟩)
  subst g3
  unfold di dx
  rw[hr,bA,bA,hm0]
  have g1':cntM (dD p d q) m 0 (s.1,s.2)=some (.inr s'):=g1
  have g2':cntM (dB p d (m:Int) q) m 0 (s.1,s.2)=some (.inr s'):=g2
  rw[g1',g2',bA,bA,bK,bK]
  exact⟨_,_,rfl,rfl,rfl,by rw[Nat.add_mul,Nat.one_mul];exact g4⟩)
 subst h3
 exact⟨s,h1,h2,h4⟩
end
theorem copyPairs {ps:List Pair}(hl:ps.length<=4) (hb:∀x∈ps,x.Ask.length<=1000000000/\x.Give.length<=1000000000) (X:Det) (hX:X.Pairs=ps):cntM (dp X) ps.length 0 []=some (.inr ps)/\cntM (c8 X) ps.length 0 []=some (.inr ps):=by
 constructor
 · obtain⟨s,h1,h2⟩:=bY (f:=dp X) (λj s=>s=ps.take j) ps.length (s:=[]) rfl (λj s hj e=>by
    subst e
    have hx:ps[j]? =some ps[j]:=bE hj
    generalize ps[j]=x at hx
    obtain⟨b1,b2⟩:=hb x (gs hx)
    have cp:∀{xs:List Int},xs.length<=1000000000->da xs=some xs:=λ{xs} h=>by
     unfold da
     rw[appL (by rw[vD];omega) rfl];rfl
    unfold dp
    rw[hX,bG,hx,bA,bA,cp b1,bA,cp b2,bA,app1 (by rw[List.length_take];omega) rfl]
    exact⟨_,rfl,by rw[List.take_add_one,hx];rfl⟩)
   rw[h1,h2,List.take_length]
 · obtain⟨s,h1,h2⟩:=bY (f:=c8 X) (λj s=>s=ps.take j) ps.length (s:=[]) rfl (λj s hj e=>by
    subst e
    have hx:ps[j]? =some ps[j]:=bE hj
    generalize ps[j]=x at hx
    obtain⟨b1,b2⟩:=hb x (gs hx)
    unfold c8 ka
    rw[hX,bG,hx,bA,appL (by rw[vD];omega) rfl,bA,appL (by rw[vD];omega) rfl,bA,bA,app1 (by rw[List.length_take];omega) rfl]
    exact⟨_,rfl,by rw[List.take_add_one,hx];rfl⟩)
   rw[h1,h2,List.take_length]
theorem p5 {p:Sig}{d:Det}(hs:sigOk p=true) (hd:detOk p d=true):∃(n m k:Nat) (A:Arena),d.Next.length=n/\pw p.In=(m:Int)/\pw p.Out=(k:Int)/\1<=n/\n<=48/\1<=m/\m<=4/\1<=k/\k<=4/\(∀row∈d.Next,RowIn (n:Int) ((m * k:Nat):Int) row)/\(∀x∈d.Pairs,x.Ask.length<=1000000000/\x.Give.length<=1000000000)/\ConA d n m k A/\dc p d=some (A,d.Pairs,true)/\en p d=some (A,d.Pairs):=by
 obtain⟨h1,h2,h3,h4⟩:=gN hd
 have m1:=kA p.In
 have k1:=kA p.Out
 obtain⟨m,hm⟩:=ew (z:=pw p.In) (by omega)
 obtain⟨k,hk⟩:=ew (z:=pw p.Out) (by omega)
 have hb:∀x∈d.Pairs,x.Ask.length<=1000000000/\x.Give.length<=1000000000:=λx hx=>by
  have hd':=hd
  unfold detOk at hd'
  simp only[t9]at hd'
  have hp:=hd'.1.2
  unfold pairsOk at hp
  rw[t9,List.all_eq_true]at hp
  have:=hp.2 x hx
  unfold pairOk at this
  rw[t9]at this
  have a1:=(St.of this.1).len
  have a2:=(St.of this.2).len
  omega
 have hD:∀row∈d.Next,RowIn (d.Next.length:Int) ((m * k:Nat):Int) row:=λrow hr=>by
  have:=h4 row hr
  unfold ltd at this
  rw[hm,hk]at this
  simpa using this
 obtain⟨f1,f2⟩:=sL h2 hm rfl
 obtain⟨s,s1,s2,c1,R,c2,c3,c4⟩:=rX hs h2 hm hk rfl hD
 obtain⟨p1,p2⟩:=copyPairs h3 hb d rfl
 refine⟨d.Next.length,m,k,⟨s.1,s.2⟩,rfl,hm,hk,h1,h2,by omega,by omega,by omega,by omega,hD,hb,⟨c1,?_,λq hq=>?_,λq i hq hi=>?_⟩,?_,?_⟩
 · show s.2.length=_
   rw[c2];simp[c3]
 · show s.2[q]? =_
   rw[c2,List.getElem?_append_left (by simpa using hq),List.getElem?_map,List.getElem?_range hq];rfl
 · obtain⟨r,r1,r2⟩:=c4 q i hq hi (pl hq hi)
   refine⟨r,?_,r2⟩
   show s.2[_]? =_
   rw[c2,List.getElem?_append_right (by simp),vJ,List.length_range,Nat.add_sub_cancel_left]
   exact r1
 · unfold dc
   rw[jw hs hb,hd,bA,vx,cond_false,rq hs,bA,hm,f1,bA,bK]
   dsimp only
   rw[s1,bA,bK,p1];rfl
 · unfold en
   rw[jH hs,bA,hm,f2,bA,bK]
   dsimp only
   rw[s2,bA,bK,p2];rfl
end Go.Proofs.YtpcjbkgbnoocaaaGreat
set_option linter.unusedVariables false
set_option linter.unusedSimpArgs false
namespace Go.Proofs.YtpcjbkgbnoocaaaGreat
open Go Go.Wk Go.Proofs
def atP (P:List Place) (y:Int):Int:=match idx P y with | some v=>v.At | none=> -1
theorem jE {P:List Place}{y:Int}{v:Place}(h:idx P y=some v):atP P y=v.At:=by unfold atP;rw[h]
structure Cx (d:Det) (n m k:Nat) (A:Arena) (P:List Place) (g:Parity) (W:Int->Prop) (pk:List Int):Prop where
 n1:1<=n
 n48:n<=48
 m1:1<=m
 m4:m<=4
 k1:1<=k
 k4:k<=4
 dl:d.Next.length=n
 cell:∀row∈d.Next,RowIn (n:Int) ((m * k:Nat):Int) row
 con:ConA d n m k A
 rg:RecG A d.Pairs ⟨0,firstR d.Pairs.length⟩ P g
 ok:parityOk g=true
 sol:Solv g W pk
section
variable {d:Det}{n m k:Nat}{A:Arena}{P:List Place}{g:Parity}{W:Int->Prop}{pk:List Int}(h:Cx d n m k A P g W pk)
include h
theorem Cx.len:g.Prio.length=P.length/\g.Arena.Owner.length=P.length/\g.Arena.Next.length=P.length/\P.length<=256/\1<=P.length/\pk.length=P.length:=by
 have r:=h.rg.game
 have h1:=r.ol
 have h2:=r.nl
 have h3:=r.ql
 have h4:=h.sol.len
 have h5:=(bF.1 r.zero).1
 exact⟨h3,h1,h2,h.rg.le,by omega,by omega⟩
theorem Cx.place {x:Int}(hx:Xn P.length x):∃v,idx P x=some v/\0<=v.At/\v.At<((n+n * m:Nat):Int):=by
 obtain⟨v,hv,hm⟩:=iA (xs:=P) hx.1 hx.2
 have o:=h.rg.game.inn v hm
 have h2:=o.a1
 rw[h.con.ol,vy,List.length_replicate,List.length_replicate]at h2
 exact⟨v,hv,o.a0,h2⟩
theorem Cx.row {x:Int}{v:Place}(hv:idx P x=some v):∃r ar rc,idx g.Arena.Next x=some r/\idx A.Next v.At=some ar/\RowP P ar rc r/\idx g.Arena.Owner x=idx A.Owner v.At/\r.length<=16:=by
 obtain⟨x0,x1⟩:=(gC hv)
 obtain⟨i,hi⟩:=ew x0
 subst hi
 rw[bG]at hv
 have hlt:=(bF.1 hv).1
 obtain⟨b1,_,r,ar,b3,b4,b5⟩:=h.rg.game.row i v hlt hv
 refine⟨r,ar,_,by rw[bG];exact b3,b4,b5,by rw[bG];exact b1,?_⟩
 have:=(dd h.ok).2.2.2.2 i r b3
 exact this.2.1
omit h in
theorem sq {x y:Int}{r:List Int}(hr:idx g.Arena.Next x=some r):(gI g).E x y↔y∈r:=by
 show y∈rowI g.Arena x↔_
 rw[eQ hr]
theorem Cx.state {x:Int}{v:Place}(hv:idx P x=some v) (hs:v.At<(n:Int)):(gI g).own x=true/\∃(q:Nat) (r:List Int),v.At=(q:Int)/\q<n/\idx g.Arena.Next x=some r/\(∀y∈r,Xn P.length y/\∃i:Nat,i<m/\atP P y=((n+(q * m+i):Nat):Int))/\∀i:Nat,i<m->∃y∈r,atP P y=((n+(q * m+i):Nat):Int):=by
 obtain⟨v',hv',a0,_⟩:=h.place (x:=x) ⟨(gC hv).1,(gC hv).2.1⟩
 rw[hv]at hv'
 cases hv'
 obtain⟨q,hq⟩:=ew a0
 have hqn:q<n:=by omega
 obtain⟨r,ar,rc,r1,r2,r3,r4,_⟩:=h.row hv
 have hAr:ar=rowQ n m q:=by
  rw[hq,bG,h.con.r1 q hqn]at r2
  exact(Option.some.inj r2).symm
 subst hAr
 have how:idx g.Arena.Owner x=some 1:=by
  rw[r4,hq,bG,h.con.ol,List.getElem?_append_left (by simpa using hqn),t0,if_pos hqn]
 refine⟨?_,q,r,hq,hqn,r1,λy hy=>?_,λi hi=>?_⟩
 · show ownL _ x=true
   unfold ownL
   rw[how];rfl
 · obtain⟨y0,u,hu,e⟩:=r3.to y hy
   have hlt:=(bF.1 e).1
   unfold rowQ at hu
   obtain⟨i,hi,hu⟩:=List.mem_map.1 hu
   refine⟨⟨y0,by omega⟩,i,List.mem_range.1 hi,?_⟩
   rw[jE (by rw[cC y0];exact e),← hu,Nat.add_assoc]
 · obtain⟨y,hy,y0,e⟩:=r3.has ((n+q * m+i:Nat):Int) (by unfold rowQ;exact List.mem_map.2 ⟨i,List.mem_range.2 hi,rfl⟩)
   refine⟨y,hy,?_⟩
   rw[jE (by rw[cC y0];exact e),Nat.add_assoc]
theorem Cx.mid {y:Int}(hy:Xn P.length y){q i:Nat}(hq:q<n) (hi:i<m) (ha:atP P y=((n+(q * m+i):Nat):Int)):(gI g).own y=false/\∃r,idx g.Arena.Next y=some r/\(∀z∈r,Xn P.length z/\∃o:Nat,o<k/\atP P z=tab d.Next q ((o * m+i:Nat):Int))/\∀o:Nat,o<k->∃z∈r,atP P z=tab d.Next q ((o * m+i:Nat):Int):=by
 obtain⟨v,hv,_,_⟩:=h.place hy
 rw[jE hv]at ha
 obtain⟨r,ar,rc,r1,r2,r3,r4,_⟩:=h.row hv
 have hlt:=pl (n:=n) hq hi
 obtain⟨ar',s1,s2,s3⟩:=h.con.r0 q i hq hi
 have hAr:ar=ar':=by
  rw[ha,bG,s1]at r2
  exact(Option.some.inj r2).symm
 subst hAr
 have how:idx g.Arena.Owner y=some 0:=by
  rw[r4,ha,bG,h.con.ol,List.getElem?_append_right (by simp),List.length_replicate,Nat.add_sub_cancel_left,t0,if_pos hlt]
 refine⟨?_,r,r1,λz hz=>?_,λo ho=>?_⟩
 · show ownL _ y=false
   unfold ownL
   rw[how];rfl
 · obtain⟨z0,u,hu,e⟩:=r3.to z hz
   have hl:=(bF.1 e).1
   obtain⟨o,ho,hu⟩:=(s3 u).1 hu
   exact⟨⟨z0,by omega⟩,o,ho,by rw[jE (by rw[cC z0];exact e),hu]⟩
 · obtain⟨z,hz,z0,e⟩:=r3.has _ ((s3 _).2 ⟨o,ho,rfl⟩)
   exact⟨z,hz,by rw[jE (by rw[cC z0];exact e)]⟩
theorem Cx.cellAt {q i o:Nat}(hq:q<n) (hi:i<m) (ho:o<k):∃row,idx d.Next (q:Int)=some row/\idx row ((o * m+i:Nat):Int)=some (tab d.Next q ((o * m+i:Nat):Int))/\0<=tab d.Next q ((o * m+i:Nat):Int)/\tab d.Next q ((o * m+i:Nat):Int)<(n:Int):=
 ma h.m1 h.m4 h.dl h.cell hq hi ho
theorem Cx.mine {x:Int}(hx:Xn P.length x) (ho:(gI g).own x=wB W x):∃y,idx pk x=some y/\Xn P.length y/\(gI g).E x y/\wB W y=wB W x:=by
 obtain⟨l1,_,_,_,_,l6⟩:=h.len
 have ha:=h.sol.ans
 rw[l1]at ha
 obtain⟨a1,a2,a3,a4⟩:=ha.mine x hx ho
 obtain⟨y,hy,_⟩:=iA (xs:=pk) hx.1 (by have:=hx.2;omega)
 rw[pU hy]at a1 a2 a3 a4
 exact⟨y,hy,a3,a2,a4⟩
theorem Cx.yours {x y:Int}(hx:Xn P.length x) (ho:¬(gI g).own x=wB W x) (he:(gI g).E x y) (hy:Xn P.length y):wB W y=wB W x:=by
 obtain⟨l1,_⟩:=h.len
 have ha:=h.sol.ans
 rw[l1]at ha
 exact ha.yours x y hx ho he hy
end
def toP (P:List Place) (r:List Int) (z:Int):Option Nat:=r.findIdx? λy=>atP P y==z
theorem tJ {P:List Place}{r:List Int}{z:Int}(h:∃y∈r,atP P y=z):∃j y,toP P r z=some j/\r[j]? =some y/\atP P y=z:=by
 obtain⟨y,hy,e⟩:=h
 cases hf:toP P r z with
 | none=>
  unfold toP at hf
  rw[List.findIdx?_eq_none_iff]at hf
  have:=hf y hy
  simp[e]at this
 | some j=>
  unfold toP at hf
  obtain⟨h1,h2,_⟩:=List.findIdx?_eq_some_iff_getElem.1 hf
  exact⟨j,r[j],rfl,bE h1,by simpa using h2⟩
def tgt (P:List Place) (r:List Int) (z:Int):Int:=match toP P r z with | some j=>r.getD j 0 | none=> -1
theorem tH {P:List Place}{r:List Int}{z:Int}(h:∃y∈r,atP P y=z):tgt P r z∈r/\atP P (tgt P r z)=z/\∃j:Nat,toP P r z=some j/\r[j]? =some (tgt P r z):=by
 obtain⟨j,y,h1,h2,h3⟩:=tJ h
 have e:tgt P r z=y:=by
  unfold tgt
  rw[h1]
  show r.getD j 0=y
  rw[List.getD_eq_getElem?_getD,h2];rfl
 rw[e]
 exact⟨gs h2,h3,j,h1,h2⟩
def nmRow (f:Nat->Int) (F:List Int):Nat->List Int×List Int
 | 0=>(F,[])
 | j+1=>(addN (nmRow f F j).1 (f j),(nmRow f F j).2++[placeOf (addN (nmRow f F j).1 (f j)) (f j)])
theorem pa {F:List Int}{t:Int}(h:t∈F):0<=placeOf F t/\placeOf F t<(F.length:Int):=by
 unfold placeOf
 cases hf:F.findIdx? (λx=>t==x) with
 | none=>
  rw[List.findIdx?_eq_none_iff]at hf
  have:=hf t h
  simp at this
 | some i=>
  obtain⟨h1,_⟩:=List.findIdx?_eq_some_iff_getElem.1 hf
  dsimp only
  omega
theorem tK {F:List Int}{t:Int}:t∈addN F t:=by
 unfold addN
 by_cases h:t∈F
 · rw[if_pos h];exact h
 · rw[if_neg h];simp
theorem tj {F:List Int}{t x:Int}(h:x∈addN F t):x∈F\/x=t:=by
 unfold addN at h
 by_cases ht:t∈F
 · rw[if_pos ht]at h;exact .inl h
 · rw[if_neg ht]at h;simpa using h
theorem pc {F:List Int}(t:Int) (hl:F.length<=1000):(bif decide (placeOf F t<0) then Option.bind (appS 8 F [t]) λx=>some (x,(F.length:Int)) else some (F,placeOf F t))=some (addN F t,placeOf (addN F t) t):=by
 by_cases h:t∈F
 · rw[decide_eq_false (by have:=(pa h).1;omega),cond_false]
   unfold addN
   rw[if_pos h]
 · rw[sH h,decide_eq_true (by omega),cond_true,app1 (by omega) rfl]
   unfold addN
   rw[if_neg h,sM h];rfl
structure NmRow (N:Nat) (F:List Int) (j:Nat) (Q:Int->Prop) (F' row:List Int):Prop where
 nm:Names N F'
 pre:∀(i:Nat) v,F[i]? =some v->F'[i]? =some v
 len:F.length<=F'.length
 le:F'.length<=F.length+j
 rl:row.length=j
 rin:∀x∈row,0<=x/\x<(F'.length:Int)
 all:∀x∈F',Q x
theorem qW {N:Nat}{F:List Int}{Q:Int->Prop}(hF:Names N F) (hQ:∀x∈F,Q x){f:Nat->Int}{c:Nat}(hf:∀j,j<c->0<=f j/\f j<(N:Int)/\Q (f j)):∀j,j<=c->NmRow N F j Q (nmRow f F j).1 (nmRow f F j).2
 | 0,_=>⟨hF,λ_ _ h=>h,Nat.le_refl _,Nat.le_refl _,rfl,λx hx=>(by cases hx),hQ⟩
 | j+1,hj=>by
  have r:=qW hF hQ hf j (by omega)
  obtain⟨f0,f1,f2⟩:=hf j (by omega)
  unfold nmRow
  generalize nmRow f F j=G at *
  obtain⟨a1,a2⟩:=r.nm.add f0 f1
  have hlen:G.1.length<=(addN G.1 (f j)).length/\(addN G.1 (f j)).length<=G.1.length+1:=by
   unfold addN
   by_cases h:f j∈G.1
   · rw[if_pos h];omega
   · rw[if_neg h,vy];simp
  have h1:=r.len
  have h2:=r.le
  have hm:=pa (tK (F:=G.1) (t:=f j))
  refine⟨a1,λi v hv=>a2 i v (r.pre i v hv),by dsimp only;omega,by dsimp only;omega,by simp[r.rl],λx hx=>?_,λx hx=>?_⟩
  · rcases vG.1 hx with hx | hx
    · have:=r.rin x hx
      dsimp only;omega
    · rw[vz.1 hx];exact hm
  · rcases tj hx with hx | hx
    · exact r.all x hx
    · rw[hx];exact f2
end Go.Proofs.YtpcjbkgbnoocaaaGreat
set_option linter.unusedVariables false
set_option linter.unusedSimpArgs false
namespace Go.Proofs.YtpcjbkgbnoocaaaGreat
open Go Go.Wk Go.Proofs
theorem tk (p:Sig):iH p zeroD=some false:=by
 cases hs:sigOk p with
 | true=>
  rw[jw hs (λx hx=>by cases hx)]
  rfl
 | false=>
  unfold iH
  rw[eE,hs];rfl
theorem tA (p:Sig):dc p zeroD=some (⟨[],[]⟩,[],false):=by
 unfold dc
 rw[tk];rfl
theorem tx:dg ⟨[],[]⟩ [] 0=some noRec:=by
 unfold dg
 rw[kw];rfl
structure Stp3 (p:Sig) (cs:List Clause) (d:Det) (n m k:Nat) (A:Arena) (P:List Place) (g:Parity) (W:Int->Prop) (pk:List Int):Prop where
 sig:sigOk p=true
 det:detOk p d=true
 im:pw p.In=(m:Int)
 ok:pw p.Out=(k:Int)
 cx:Cx d n m k A P g W pk
 sC:dc p d=some (A,d.Pairs,true)
 iC:en p d=some (A,d.Pairs)
 sR:dg A d.Pairs 0=some (g,P,true)
 iR:ez A d.Pairs 0=some (g,P,true)
 sS:j4 g=some ⟨wonL g.Prio.length W,pk⟩
 iS:jT g=some ⟨wonL g.Prio.length W,pk⟩
 sW:fS g=some (wonL g.Prio.length W)
 iW:fK g=some (wonL g.Prio.length W)
 won:idx (wonL g.Prio.length W) 0=some (b2i (wB W 0))
structure Stp2 (p:Sig) (d:Det) (A:Arena):Prop where
 sig:sigOk p=true
 det:detOk p d=true
 pb:∀x∈d.Pairs,x.Ask.length<=1000000000/\x.Give.length<=1000000000
 aok:arenaOk A=true
 pok:pairsOk d.Pairs (A.Owner.length:Int)=true
 a1:1<=A.Owner.length/\A.Owner.length<=256
 sC:dc p d=some (A,d.Pairs,true)
 iC:en p d=some (A,d.Pairs)
theorem setup (p:Sig){cs:List Clause}(hb:∀c∈cs,Clause.bd c):(dK p cs=some (zeroD,false)/\dQ p cs=some (zeroD,false))\/∃d A,dK p cs=some (d,true)/\dQ p cs=some (d,true)/\Stp2 p d A /\
 ((dg A d.Pairs 0=some noRec/\ez A d.Pairs 0=some noRec)\/∃n m k P g W pk,Stp3 p cs d n m k A P g W pk):=by
 rcases pY p hb with ⟨h1,h2,_⟩ | ⟨hs,hc,_,d,_,_,_,hd,_,h1,h2⟩
 · exact .inl ⟨h1,h2⟩
 · right
   obtain⟨n,m,k,A,q1,q2,q3,n1,n48,m1,m4,k1,k4,hD,hpb,hA,hsC,hiC⟩:=p5 hs hd
   have hAok:=vj n48 n1 m1 m4 k1 k4 q1 hD hA
   have hol:A.Owner.length=n+n * m:=by rw[hA.ol];simp
   have hnm:n * m<=48 * 4:=Nat.mul_le_mul n48 m4
   have hps:pairsOk d.Pairs (A.Owner.length:Int)=true:=by
    have hd':=hd
    unfold detOk at hd'
    simp only[t9]at hd'
    have hp:=hd'.1.2
    unfold pairsOk at hp ⊢
    rw[t9,List.all_eq_true]at hp ⊢
    refine⟨hp.1,λx hx=>?_⟩
    have:=hp.2 x hx
    unfold pairOk at this ⊢
    rw[t9]at this ⊢
    exact⟨(St.of this.1).ok (by omega),(St.of this.2).ok (by omega)⟩
   refine⟨d,A,h1,h2,⟨hs,hd,hpb,hAok,hps,⟨by omega,by omega⟩,hsC,hiC⟩,?_⟩
   rcases oR hAok hps hpb (Int.le_refl 0) (by omega) with ⟨r1,r2⟩ | ⟨P,g,hG,hok,r1,r2⟩
   · exact .inl ⟨r1,r2⟩
   · right
     obtain⟨W,pk,s1,s2,s3,s4,s5⟩:=qX hok
     have hcx:Cx d n m k A P g W pk:=⟨n1,n48,m1,m4,k1,k4,q1,hD,hA,hG,hok,s5⟩
     obtain⟨l1,_,_,_,l5,_⟩:=hcx.len
     exact⟨n,m,k,P,g,W,pk,hs,hd,q2,q3,hcx,hsC,hiC,r1,r2,s1,s2,s3,s4,j9 ⟨Int.le_refl _,by omega⟩⟩
end Go.Proofs.YtpcjbkgbnoocaaaGreat
set_option linter.unusedVariables false
set_option linter.unusedSimpArgs false
namespace Go.Proofs.YtpcjbkgbnoocaaaGreat
open Go Go.Wk Go.Proofs
theorem uP {P:List Place}{r:List Int}{z:Int}(hr:∀y∈r,Xn P.length y):mB r P z=some (tgt P r z):=by
 unfold mB
 rw[eT (f:=iV r P z) (λy=>atP P y==z) (λi=>r.getD i 0) (xs:=r) (λi y hy=>by
  obtain⟨v,hv,_⟩:=iA (xs:=P) (hr y (gs hy)).1 (hr y (gs hy)).2
  unfold iV
  rw[bG,hy,bA,hv,bA,jE hv,bA,List.getD_eq_getElem?_getD,hy]
  cases v.At==z <;> rfl)]
 unfold tgt toP
 cases r.findIdx? (λy=>atP P y==z) <;> rfl
theorem uH {P:List Place}{r:List Int}{z:Int}(hr:∀y∈r,Xn P.length y){j:Nat}(hj:toP P r z=some j):bV r P z=some (j:Int):=by
 rw[dS (λy=>atP P y==z) (λy hy=>by
  obtain⟨v,hv,_⟩:=iA (xs:=P) (hr y hy).1 (hr y hy).2
  unfold fc
  rw[hv,bA,jE hv])]
 unfold toP at hj
 rw[hj]
section
variable {p:Sig}(hs:sigOk p=true){d:Det}{n m k:Nat}{A:Arena}{P:List Place}{g:Parity}{W:Int->Prop}{pk wn:List Int}(h:Cx d n m k A P g W pk) (hm:pw p.In=(m:Int)) (hk:pw p.Out=(k:Int))
include hs h hm hk
theorem qY {F:List Int}(hF:F.length<=256){v u:Place}{y:Int}{q i:Nat}{r:List Int}(hq:q<n) (hi:i<m) (hv:v.At=(q:Int)) (hr:idx g.Arena.Next y=some r) (hR:∀z∈r,Xn P.length z) (hA:∀o:Nat,o<k->∃z∈r,atP P z=tab d.Next q ((o * m+i:Nat):Int)) (hin:Int.tmod (IntKind.i64.wrap (u.At-(d.Next.length:Int))) (m:Int)=(i:Int)):
 (∃z,whileM (dH p (d,true) (g,P,true) v y u (m:Int)) (2 ^ 64) (F,[],0)=some (.inr ((nmRow (λo=>tgt P r (tab d.Next q ((o * m+i:Nat):Int))) F k).1,(nmRow (λo=>tgt P r (tab d.Next q ((o * m+i:Nat):Int))) F k).2,z))) /\
 cntM (dG p d g P v y u (m:Int)) k 0 (F,[])=some (.inr (nmRow (λo=>tgt P r (tab d.Next q ((o * m+i:Nat):Int))) F k)):=by
 have hk4:=h.k4
 have hm4:=h.m4
 generalize hfe:(λo:Nat=>tgt P r (tab d.Next q ((o * m+i:Nat):Int)))=f
 have hf:∀o,f o=tgt P r (tab d.Next q ((o * m+i:Nat):Int)):=λo=>by rw[← hfe]
 have hlen:∀j,j<=k->(nmRow f F j).1.length<=300/\(nmRow f F j).2.length=j:=by
  intro j
  induction j with
  | zero=>intro _;exact⟨by show F.length<=300;omega,rfl⟩
  | succ j ih=>
   intro hj
   have hle:(nmRow f F j).1.length<=F.length+j:=by
    clear ih hj
    induction j with
    | zero=>exact Nat.le_refl _
    | succ j ih=>
     show(addN _ _).length<=_
     unfold addN
     split
     · omega
     · rw[vy];simp;omega
   obtain⟨_,b⟩:=ih (by omega)
   refine⟨?_,by show((nmRow f F j).2++[_]).length=_;rw[vy,b];rfl⟩
   show(addN _ _).length<=300
   unfold addN
   split
   · omega
   · rw[vy];simp;omega
 have hfacts:∀j:Nat,j<k->∃row,idx d.Next v.At=some row/\idx row ((j:Int) * (m:Int)+(i:Int))=some (tab d.Next q ((j * m+i:Nat):Int))/\∃jj:Nat,toP P r (tab d.Next q ((j * m+i:Nat):Int))=some jj/\r[jj]? =some (f j):=λj hj=>by
  obtain⟨row,r1,r2,_⟩:=h.cellAt hq hi hj
  obtain⟨_,_,jj,t1,t2⟩:=tH (hA j hj)
  refine⟨row,by rw[hv];exact r1,?_,jj,t1,by rw[hf];exact t2⟩
  rw[← r2]
  congr 1
 constructor
 · obtain⟨o,w1,w2⟩:=cB (f:=dH p (d,true) (g,P,true) v y u (m:Int)) (λj (s:List Int×List Int×Int)=>s=((nmRow f F j).1,(nmRow f F j).2,(j:Int))/\j<=k) (λ_=>False) (λs=>∃z,s=((nmRow f F k).1,(nmRow f F k).2,z)) k (λj s ⟨e,hj⟩=>by
    subst e
    obtain⟨l1,l2⟩:=hlen j hj
    unfold dH iE
    dsimp only
    rw[d6 (d4 hs).2,hk,bA,bA]
    by_cases hlt:j<k
    · obtain⟨row,r1,r2,jj,t1,t2⟩:=hfacts j hlt
      rw[decide_eq_true (show(j:Int)<(k:Int) by omega),cond_true,hr,bA,r1,bA,hin]
      rw[kP hs (x:=(i:Int)) (o:=(j:Int)) (by omega) (by omega) (by omega) (by omega),hm,bA,r2,bA,uP hR,bA,← hf,qi,bA,pc _ (by omega),bA]
      dsimp only
      rw[app1 (by omega) rfl,bA,wr' (by omega) (by omega)]
      exact⟨_,rfl,hlt,by rfl,by omega⟩
    · have:j=k:=by omega
      subst this
      rw[decide_eq_false (show ¬((j:Nat):Int)<(j:Int) by omega),cond_false]
      exact⟨_,rfl,_,rfl⟩) (2 ^ 64) 0 (F,[],0) (by omega) ⟨rfl,Nat.zero_le _⟩ (by omega)
   match o,w2 with
   | .inr s,⟨z,e⟩=>exact⟨z,by rw[w1,e]⟩
 · obtain⟨s,h1,h2⟩:=bY (f:=dG p d g P v y u (m:Int)) (λj s=>s=nmRow f F j) k (s:=(F,[])) rfl (λj s hj e=>by
    subst e
    obtain⟨l1,l2⟩:=hlen j (by omega)
    obtain⟨row,r1,r2,jj,t1,t2⟩:=hfacts j hj
    have hb:j * m<=4 * 4:=Nat.mul_le_mul (by omega) (by omega)
    have e:(j:Int) * (m:Int)=((j * m:Nat):Int):=by simp
    refine⟨nmRow f F (j+1),?_,rfl⟩
    unfold dG
    rw[r1,bA,jH hs,hm,bA,hin,wr' (z:=(j:Int) * (m:Int)) (by omega) (by omega),wr' (z:=(j:Int) * (m:Int)+(i:Int)) (by omega) (by omega),r2,bA,hr,bA,uH hR t1,bA,bA,bG,t2,bA,qv,bA,pc _ (by omega),bA]
    dsimp only
    rw[app1 (by omega) rfl,bA]
    rfl)
   rw[h1,h2]
structure Ctr (N m k:Nat) (Q:Int->Prop) (F:List Int) (i:Nat) (In:List Int) (Nx:List (List Int)):Prop where
 il:i<=F.length
 nm:Names N F
 all:∀x∈F,Q x
 zero:F[0]? =some 0
 inl:In.length=i
 nxl:Nx.length=i
 inr:∀x∈In,0<=x/\x<(m:Int)
 nxr:∀row∈Nx,row.length=k/\∀x∈row,0<=x/\x<(F.length:Int)
theorem qg (h0:wB W 0=true):∃s:List Int×Int×List Int×List (List Int),whileM (cT p (d,true) (g,P,true) ⟨wn,pk⟩) (2 ^ 64) ([0],0,[],[])=some (.inr s)/\whileM (dw p d g P ⟨wn,pk⟩) (2 ^ 64) ([0],0,[],[])=some (.inr s)/\Ctr P.length m k (λx=>wB W x=true/\atP P x<(n:Int)) s.1 s.1.length s.2.2.1 s.2.2.2:=by
 obtain⟨_,_,_,hP256,hP1,hpk⟩:=h.len
 have hm1:=h.m1
 have hm4:=h.m4
 have hk1:=h.k1
 have hk4:=h.k4
 have hn48:=h.n48
 obtain⟨sh1,sh2⟩:=nD (d4 hs).2
 rw[hk]at sh2
 have hrk:rng (k:Int)=some ():=by unfold rng;rw[if_pos (by omega)]
 have hk0:Int.toNat ((k:Int)-0)=k:=by omega
 have hnz:nz (m:Int)=some ():=by unfold nz;rw[if_neg (by omega)]
 have hz0:atP P 0<(n:Int):=by
  have hz:=h.rg.game.zero
  rw[jE (v:=⟨0,firstR d.Pairs.length⟩) (by rw[show(0:Int)=((0:Nat):Int) from rfl,bG];exact hz)]
  have:=h.n1
  show(0:Int)<_
  omega
 obtain⟨o,t,w1,w2,w3⟩:=lu (f:=cT p (d,true) (g,P,true) ⟨wn,pk⟩) (g:=dw p d g P ⟨wn,pk⟩) (λs t=>s=t/\∃i:Nat,s.2.1=(i:Int)/\Ctr P.length m k (λx=>wB W x=true/\atP P x<(n:Int)) s.1 i s.2.2.1 s.2.2.2) (λs=>300-s.2.1.toNat) (λ_ _=>False)
  (λs t=>s=t/\Ctr P.length m k (λx=>wB W x=true/\atP P x<(n:Int)) s.1 s.1.length s.2.2.1 s.2.2.2) (λs t ⟨e,i,hi,hC⟩=>by
  subst e
  obtain⟨F,z,In,Nx⟩:=s
  dsimp only at hi hC
  subst hi
  have hFl:=hC.nm.len
  unfold cT dw
  dsimp only
  by_cases hlt:i<F.length
  · have hx:F[i]? =some F[i]:=bE hlt
    generalize F[i]=x at hx
    have hxm:=gs hx
    have hxX:Xn P.length x:=hC.nm.2 x hxm
    obtain⟨hxw,hxa⟩:=hC.all x hxm
    obtain⟨v,hv,v0,v1⟩:=h.place hxX
    rw[jE hv]at hxa
    obtain⟨hown,q,rx,hvq,hq,hrx,hrow,_⟩:=h.state hv hxa
    obtain⟨y,hy,hyX,hye,hyw⟩:=h.mine hxX (by rw[hown,hxw])
    obtain⟨_,ii,hii,hya⟩:=hrow y ((sq hrx).1 hye)
    obtain⟨u,hu,_,_⟩:=h.place hyX
    obtain⟨hyo,r,hr,hR1,hR2⟩:=h.mid hyX hq hii hya
    have hua:u.At=((n+(q * m+ii):Nat):Int):=by rw[← jE hu];exact hya
    have hlt2:=pl (n:=n) hq hii
    have hnm:n * m<=48 * 4:=Nat.mul_le_mul hn48 hm4
    have hin:Int.tmod (IntKind.i64.wrap (u.At-(d.Next.length:Int))) (m:Int)=(ii:Int):=by
     rw[hua,h.dl,wr' (by omega) (by omega),show((n+(q * m+ii):Nat):Int)-(n:Int)=((q * m+ii:Nat):Int) by omega,Int.tmod_eq_emod_of_nonneg (by omega)]
     have:(q * m+ii) % m=ii:=by
      rw[Nat.mul_comm,Nat.mul_add_mod]
      exact Nat.mod_eq_of_lt hii
     omega
    obtain⟨⟨zz,c1⟩,c2⟩:=qY hs h hm hk (F:=F) (v:=v) (u:=u) (y:=y) (by omega) hq hii hvq hr (λz hz=>(hR1 z hz).1) hR2 hin
    have hN:=qW (N:=P.length) (F:=F) (Q:=λx=>wB W x=true/\atP P x<(n:Int)) hC.nm hC.all (f:=λo=>tgt P r (tab d.Next q ((o * m+ii:Nat):Int))) (c:=k) (λj hj=>by
     obtain⟨t1,t2,_⟩:=tH (hR2 j hj)
     obtain⟨t3,_⟩:=hR1 _ t1
     obtain⟨_,_,_,_,b2⟩:=h.cellAt hq hii hj
     refine⟨t3.1,t3.2,?_,by rw[t2];exact b2⟩
     rw[h.yours hyX (by rw[hyo,hyw,hxw];simp) ((sq hr).2 t1) t3,hyw,hxw]) k (Nat.le_refl _)
    generalize nmRow (λo=>tgt P r (tab d.Next q ((o * m+ii:Nat):Int))) F k=G at *
    have e1:=hC.inl
    have e2:=hC.nxl
    rw[decide_eq_true (show(i:Int)<(F.length:Int) by omega),cond_true,cond_true,bG,hx,bA,bA,hv,bA,bA,bA,bA,hy,bA,bA,hu,bA,bA]
    unfold eO
    rw[d6 (d4 hs).1,jH hs,hm,bA,bA,bA,hnz,bA,bA,sh1,bA,sh2,hrk,bA,hk0,c1,c2,bA,bA,bK,bK,hin]
    dsimp only
    rw[app1 (xs:=In) (by omega) rfl,bA,bA,app1 (xs:=Nx) (by omega) rfl,bA,bA,wr' (by omega) (by omega)]
    have hl1:=hN.len
    refine⟨_,_,rfl,rfl,⟨rfl,i+1,by dsimp only;omega,⟨by dsimp only;omega,hN.nm,hN.all,hN.pre 0 _ hC.zero,by dsimp only;rw[vy,e1];rfl,by dsimp only;rw[vy,e2];rfl,λa ha=>?_,λrow hrow'=>?_⟩⟩,?_⟩
    · rcases vG.1 ha with ha | ha
      · exact hC.inr a ha
      · rw[vz.1 ha];omega
    · rcases vG.1 hrow' with hr' | hr'
      · obtain⟨b1,b2⟩:=hC.nxr row hr'
        exact⟨b1,λx hx=>by have:=b2 x hx;dsimp only;omega⟩
      · rw[vz.1 hr']
        exact⟨hN.rl,hN.rin⟩
    · dsimp only;omega
  · have hil:=hC.il
    have:i=F.length:=by omega
    subst this
    rw[decide_eq_false (show ¬((F.length:Nat):Int)<(F.length:Int) by omega),cond_false,cond_false]
    exact⟨_,_,rfl,rfl,rfl,hC⟩) (2 ^ 64) (2 ^ 64) ([0],0,[],[]) ([0],0,[],[]) (by dsimp only;omega) (by dsimp only;omega) ⟨rfl,0,rfl,⟨by simp,⟨by simp,λx hx=>by rw[vz.1 hx];omega⟩,λx hx=>by rw[vz.1 hx];exact⟨h0,hz0⟩,rfl,rfl,rfl,λx hx=>(by cases hx),λx hx=>(by cases hx)⟩⟩
 match o,t,w3 with
 | .inr s,.inr t,⟨e,hC⟩=>
  subst e
  exact⟨s,w1,w2,hC⟩
end
end Go.Proofs.YtpcjbkgbnoocaaaGreat
set_option linter.unusedVariables false
set_option linter.unusedSimpArgs false
namespace Go.Proofs.YtpcjbkgbnoocaaaGreat
open Go Go.Wk Go.Proofs
def noRiv:Rival:=⟨[],[]⟩
theorem oa (p:Sig){cs:List Clause}(hb:∀c∈cs,Clause.bd c):(ej p cs=some (noRiv,false)/\dM p cs=some (noRiv,false)) \/
 ∃(N m k:Nat) (F In:List Int) (Nx:List (List Int)) (Q:Int->Prop),Ctr N m k Q F F.length In Nx/\N<=256/\sigOk p=true/\pw p.In=(m:Int)/\pw p.Out=(k:Int)/\ej p cs=some (⟨In,Nx⟩,true)/\dM p cs=some (⟨In,Nx⟩,true):=by
 unfold ej dM
 rcases setup p hb with ⟨h1,h2⟩ | ⟨d,A,h1,h2,S2,⟨r1,r2⟩ | ⟨n,m,k,P,g,W,pk,S⟩⟩
 · left
   simp only[h1,h2,bA,tA,tx]
   exact⟨rfl,rfl⟩
 · left
   simp only[h1,h2,S2.sC,S2.iC,r1,r2,bA,vx,cond_false]
   exact⟨rfl,rfl⟩
 · simp only[h1,h2,S.sC,S.iC,S.sR,S.iR,S.iW,S.won,S.sS,bA,vx,cond_false]
   cases hw:wB W 0 with
   | false=>
    left
    exact⟨rfl,rfl⟩
   | true=>
    right
    obtain⟨s,w1,w2,hC⟩:=qg (wn:=wonL g.Prio.length W) S.sig S.cx S.im S.ok hw
    obtain⟨_,_,_,l4,_⟩:=S.cx.len
    refine⟨P.length,m,k,s.1,s.2.2.1,s.2.2.2,_,hC,l4,S.sig,S.im,S.ok,?_,?_⟩
    · show(Option.bind (whileM (cT p (d,true) (g,P,true) ⟨wonL g.Prio.length W,pk⟩) (2 ^ 64) ([0],0,[],[])) _)=_
      rw[w1];rfl
    · show(Option.bind (io p d g P) _)=_
      unfold io
      rw[S.iS,bA,w2];rfl
end Go.Proofs.YtpcjbkgbnoocaaaGreat
set_option linter.unusedVariables false
set_option linter.unusedSimpArgs false
namespace Go.Proofs.YtpcjbkgbnoocaaaGreat
open Go Go.Wk Go.Proofs
theorem FnExactCounterOf_law {p0:Sig}(ok0:Sig.ok p0){p1:(List Clause)}(ok1:(okS Clause.ok) p1):cV p0 p1=some true:=
 FnExactCounterOf_of ok0 ok1 λh0=>by
  rcases oa p0 h0.2 with ⟨h1,h2⟩ | ⟨N,m,k,F,In,Nx,Q,hC,hN,hs,hm,hk,h1,h2⟩
  · exact⟨_,_,h1,h2,by decide,by decide⟩
  · have hF:=hC.nm.len
    have hk4:=kA p0.Out
    have e1:=hC.inl
    have e2:=hC.nxl
    refine⟨_,_,h1,h2,by rw[pX];dsimp only;omega,?_⟩
    have:=pC (c:=ctL (λ_=>1)) (N:=256) (M:=4) (xs:=Nx) (by omega) (λx hx=>by rw[pX];have:=(hC.nxr x hx).1;omega)
    dsimp only
    omega
end Go.Proofs.YtpcjbkgbnoocaaaGreat
