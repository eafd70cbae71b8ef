/- What is reached within marks: the program's search. -/
import Derived.Test.YtmiilifclnanlaaGreatL2EE
import Derived.Test.YtmiilifclnanlaaGreatL0EE
import Derived.Test.YtmiilifclnanlaaGreatL1EE
set_option linter.unusedVariables false
set_option linter.unusedSimpArgs false
namespace Go.Proofs.YtmiilifclnanlaaGreat
open Go Go.Wk Go.Proofs
open Classical
section
variable {row:Int→List Int}{Y S0 Base Src:Int→Prop}{n:Nat}{cur:Int→List Int→Prop}{todo todo':List Int}{out:List Bool}{c:Int}
variable {N:List (List Int)}{low:List Bool}(hR:∀v:Int,0≤v→v<n→idx N v=some (row v)∧(row v).length≤10000∧∀u∈row v,0≤u∧u<n) (hn:n≤256) (hl:low.length=n) (hY:∀v,In low v↔Y v) (hstep:∀x u,S0 x∨Src x→u∈row x→Y u→Src u)
include hR hn hl hY hstep
theorem i_reach {a:Arena}(ha:a.Next=N){first:List Bool}(hf:first.length=n) (hne:0<n) (hS:∀x,¬S0 x) (hB:∀x,Base x↔In first x) (hBS:∀x,Base x→Src x) (hmin:∀C:Int→Prop,(∀x,Base x→C x)→(∀x u,S0 x∨C x→u∈row x→Y u→C u)→∀x,Src x→C x):∃R,i_reachIn a first low=some R∧R.length=n∧∀x,In R x↔Src x:=by
 subst ha
 have hlow:neS low=some ():=by
  unfold neS
  cases low with
  | nil=>simp at hl;omega
  | cons _ _=>rfl
 have hml:=marksL_len first first.length
 unfold i_reachIn
 rw[appL (by simp;omega) rfl,Option.bind_some,List.nil_append,listI_eq (by omega),Option.bind_some]
 obtain⟨o,w1,w2⟩:=while_out (f:=i_reachIn_b0 a low) (fun j (t:List Int×List Bool)=>BF row Y S0 Base Src n noC t.1 t.2∧j+msr n t.1 t.2≤3 * n+1) (fun _=>False) (fun t=>BF row Y S0 Base Src n noC [] t.2) (3 * n+1) (fun j t ⟨a1,a2⟩=>by
  obtain⟨q,t⟩:=t
  dsimp only at a1 a2
  unfold i_reachIn_b0
  dsimp only
  have hq:q.length≤1000:=by unfold msr at a2;omega
  cases q with
  | nil=>
   simp only[List.length_nil,Int.natCast_zero,Int.lt_irrefl,decide_false,cond_false]
   exact⟨_,rfl,a1⟩
  | cons y q'=>
   have hget:idx (y::q') 0=some y:=rfl
   have hsub:subS (y::q') 1 ((y::q').length:Int)=some q':=by
    unfold subS
    rw[if_pos ⟨by omega,by simp only[List.length_cons];omega,by omega⟩]
    simp
   have hy:In t y:=(a1.tod y (by simp)).resolve_left (hS y)
   have hyr:=In_of a1.len hy
   obtain⟨r1,r2,r3⟩:=hR y hyr.1 hyr.2
   rw[decide_eq_true (show(0:Int)<((y::q').length:Int) by simp only[List.length_cons];omega),cond_true,hget,Option.bind_some,hsub,Option.bind_some,r1,Option.bind_some]
   obtain⟨s,k1,k2,k3,k4,k5⟩:=cnt_inv (f:=i_reachIn_b2 low (row y)) (fun j (s:List Int×List Bool)=>BF row Y S0 Base Src n (onC y ((row y).take j)) s.1 s.2∧(∀x,In t x→In s.2 x)∧msr n s.1 s.2≤msr n q' t∧s.1.length≤1000+j) (row y).length (s:=(q',t)) ⟨a1.pop (c:=y) (todo':=q') (fun x hx=>List.mem_cons.1 hx) (fun x hx=>List.mem_cons_of_mem _ hx),fun _ h=>h,Nat.le_refl _,by simp at hq;dsimp only;omega⟩ (fun j s hlt ⟨a3,a4,a5,a6⟩=>by
    obtain⟨q2,t2⟩:=s
    dsimp only at a3 a4 a5 a6
    have hu:(row y)[j]? =some (row y)[j]:=List.getElem?_eq_getElem hlt
    generalize(row y)[j]=u at hu
    obtain⟨u0,u1⟩:=r3 u (List.mem_of_getElem? hu)
    have htk:(row y).take (j+1)=(row y).take j++[u]:=by rw[List.take_add_one,hu];rfl
    have htl':=a3.len
    unfold i_reachIn_b2
    dsimp only
    rw[idx_nat,hu,Option.bind_some,In_get (B:=t2) u0 (by omega),Option.bind_some]
    by_cases ho:In t2 u
    · simp only[decide_eq_true ho,Bool.not_true,cond_false,Option.bind_some]
      exact⟨_,rfl,by rw[htk];exact a3.skip fun _=>ho,a4,a5,by dsimp only;omega⟩
    · rw[hlow,In_get (B:=low) u0 (by omega)]
      simp only[decide_eq_false ho,Bool.not_false,cond_true,Option.bind_some]
      by_cases hyl:In low u
      · obtain⟨t',ht',_⟩:=setI_some (xs:=t2) (i:=u) true u0 (by omega)
        have hm:=msr_mark (n:=n) (todo:=q2) htl' ht' ho
        simp only[decide_eq_true hyl,cond_true,ht',Option.bind_some,app1 (show q2.length≤10000000000 by omega) (show Nat.ble 8 1024=true from rfl)]
        refine⟨_,rfl,by rw[htk];exact a3.mark ht' (hstep y u (.inr (a3.sound y (a4 y hy))) (List.mem_of_getElem? hu) ((hY u).1 hyl)),fun x hx=>?_,by dsimp only;omega,by simp;omega⟩
        have:=a4 x hx
        dsimp only at this ⊢
        unfold In at this ⊢
        rw[idx_setI ht']
        by_cases e:x=u
        · rw[if_pos e]
        · rw[if_neg e];exact this
      · simp only[decide_eq_false hyl,cond_false,Option.bind_some]
        exact⟨_,rfl,by rw[htk];exact a3.skip fun hY'=>absurd ((hY u).2 hY') hyl,a4,a5,by dsimp only;omega⟩)
   rw[k1,Option.bind_some,aft_inr]
   rw[List.take_length]at k2
   refine⟨_,rfl,?_,k2.done,?_⟩
   · unfold msr at a2;simp only[List.length_cons]at a2;omega
   · dsimp only
     unfold msr at a2 k4 ⊢
     simp only[List.length_cons]at a2
     omega) (2 ^ 64) 0 (marksL first first.length,first) (by omega) ⟨⟨hf,fun x hx=>hBS x ((hB x).2 hx),fun x hx=>(hB x).1 hx,fun x hx=> .inr (mem_marksL.1 hx),fun x hx=> .inl (by
   rcases hx with k | k
   · exact absurd k (hS x)
   · exact mem_marksL.2 k)⟩,by unfold msr;dsimp only;omega⟩ (by omega)
 match o,w2 with
 | .inr (q,t),w2=>
  rw[w1,Option.bind_some,aft_inr]
  exact⟨t,rfl,w2.len,w2.fin hmin⟩
end
end Go.Proofs.YtmiilifclnanlaaGreat
set_option linter.unusedVariables false
set_option linter.unusedSimpArgs false
namespace Go.Proofs.YtmiilifclnanlaaGreat
open Go Go.Wk Go.Proofs
open Classical
theorem cnt_allI {ρ:Type}{f:Int→Unit→Option (ρ⊕(Unit⊕Unit))}{r:ρ}(c:Nat→Bool) (n:Nat) (h:∀i:Nat,i<n→f (i:Int) ()=some (if c i then .inr (.inr ()) else .inl r)):
 cntM f n 0 ()=some (if(List.range n).all c then .inr () else .inl r):=
 cnt_all0 (f:=f) (r:=r) (xs:=List.range n) c (by simp) (fun i x hx=>by
  have hl:=(List.getElem?_eq_some_iff.1 hx).1
  rw[List.length_range]at hl
  rw[List.getElem?_range hl]at hx
  cases hx
  exact h i hl)
theorem while_all {ρ:Type}{f:Int→Option (ρ⊕(Int⊕Int))}{r:ρ}{xs:List Int}(c:Int→Bool) (hl:xs.length≤1000000) (h:∀(i:Nat) x,xs[i]? =some x→f (i:Int)=some (if c x then .inr (.inr ((i+1:Nat):Int)) else .inl r)) (he:f (xs.length:Int)=some (.inr (.inl (xs.length:Int)))):
 whileM f (2 ^ 64) 0=some (if xs.all c then .inr (xs.length:Int) else .inl r):=by
 obtain⟨o,w1,w2⟩:=while_out (f:=f) (fun j (t:Int)=>t=(j:Int)∧j≤xs.length∧(xs.take j).all c=true) (fun r'=>r'=r∧xs.all c=false) (fun t=>t=(xs.length:Int)∧xs.all c=true) xs.length (fun j t ⟨a1,a2,a3⟩=>by
  subst a1
  by_cases hlt:j<xs.length
  · have hx:xs[j]? =some xs[j]:=List.getElem?_eq_getElem hlt
    generalize xs[j]=x at hx
    rw[h j x hx]
    cases hc:c x with
    | true=>
     refine⟨_,rfl,hlt,rfl,by omega,?_⟩
     rw[List.take_add_one,hx,List.all_append,a3]
     simp[hc]
    | false=>
     refine⟨_,rfl,rfl,?_⟩
     rw[List.all_eq_false]
     exact⟨x,List.mem_of_getElem? hx,by rw[hc];simp⟩
  · have e:j=xs.length:=by omega
    subst e
    rw[he]
    rw[List.take_length]at a3
    exact⟨_,rfl,rfl,a3⟩) (2 ^ 64) 0 0 (by omega) ⟨rfl,by omega,by simp⟩ (by omega)
 rw[w1]
 match o,w2 with
 | .inl r',w2=>rw[w2.2,w2.1];rfl
 | .inr t,w2=>rw[w2.2,w2.1];rfl
theorem any_has {row:List Int}{x:Int}:(row.any fun y=>x==y)=decide (x∈row):=by
 rw[Bool.eq_iff_iff,List.any_eq_true,decide_eq_true_iff]
 simp
theorem s_l1Has_eq {row:List Int}{v:Int}:s_l1Has row v=some (decide (v∈row)):=by
 unfold s_l1Has
 rw[cnt_all0 (f:=s_l1Has_b0 row v) (r:=true) (xs:=row) (fun x=> !(x==v)) rfl (fun i x hx=>by
  unfold s_l1Has_b0
  rw[idx_nat,hx,Option.bind_some]
  cases x==v <;> rfl)]
 by_cases hm:v∈row
 · have:(row.all fun x=> !(x==v))=false:=by
    rw[List.all_eq_false]
    exact⟨v,hm,by simp⟩
   rw[this,decide_eq_true hm];rfl
 · have:(row.all fun x=> !(x==v))=true:=by
    rw[List.all_eq_true]
    intro x hx
    have:x≠v:=fun e=>hm (e ▸ hx)
    simpa using this
   rw[this,decide_eq_false hm];rfl
noncomputable def regL (W:Int→Prop) (q:Bool) (j:Nat):List Int:=((List.range j).filter fun(v:Nat)=>wB W (v:Int)==q).map Int.ofNat
theorem regL_succ {W:Int→Prop}{q:Bool}{j:Nat}:regL W q (j+1)=regL W q j++(if wB W (j:Int)=q then[(j:Int)] else[]):=by
 unfold regL
 rw[List.range_succ,List.filter_append,List.map_append]
 congr 1
 by_cases e:wB W (j:Int)=q
 · rw[if_pos e];simp[e]
 · rw[if_neg e];simp[e]
theorem regL_len {W:Int→Prop}{q:Bool}{j:Nat}:(regL W q j).length≤j:=by
 unfold regL
 rw[List.length_map]
 exact Nat.le_trans (List.length_filter_le _ _) (by simp)
theorem mem_regL {W:Int→Prop}{q:Bool}{n:Nat}{v:Int}:v∈regL W q n↔Par.Rg (Xn n) (wB W) q v:=by
 unfold regL Par.Rg Xn
 rw[List.mem_map]
 constructor
 · rintro⟨i,hi,rfl⟩
   rw[List.mem_filter,List.mem_range]at hi
   exact⟨⟨Int.natCast_nonneg i,by show(i:Int)<n;omega⟩,by simpa using hi.2⟩
 · rintro⟨⟨h0,h1⟩,h2⟩
   obtain⟨i,hi⟩:=ex_nat h0
   subst hi
   exact⟨i,by rw[List.mem_filter,List.mem_range];exact⟨by omega,by simpa using h2⟩,rfl⟩
theorem regL_asc {W:Int→Prop}{q:Bool}{n:Nat}:Asc (regL W q n):=by
 unfold regL Asc
 rw[List.pairwise_map]
 refine(List.Pairwise.filter _ List.pairwise_lt_range).imp fun {a b} hab=>?_
 show(a:Int)<(b:Int)
 omega
theorem i_regL {n:Nat}{W:Int→Prop}(hn:n≤256) (p:List Int) (q:Bool):i_RegionOf ⟨wonL n W,p⟩ (b2i q)=some (regL W q n):=by
 have hl:=wonL_len n W
 unfold i_RegionOf
 dsimp only
 rw[hl,decide_eq_false (by omega),cond_false]
 obtain⟨s,h1,h2⟩:=cnt_inv (f:=i_RegionOf_b0 ⟨wonL n W,p⟩ (b2i q)) (fun j (s:List Int)=>s=regL W q j) n (s:=[]) rfl (fun j s hj hs=>by
  subst hs
  have hx:Xn n (j:Int):=⟨by omega,by omega⟩
  have:=regL_len (W:=W) (q:=q) (j:=j)
  unfold i_RegionOf_b0
  dsimp only
  rw[wonL_idx hx,Option.bind_some,b2i_beq,app1 (by omega) rfl,regL_succ]
  by_cases e:wB W (j:Int)=q
  · rw[if_pos e,show(wB W (j:Int)==q)=true from by simpa using e]
    exact⟨_,rfl,rfl⟩
  · rw[if_neg e,show(wB W (j:Int)==q)=false from by simpa using e,List.append_nil]
    exact⟨_,rfl,rfl⟩)
 rw[h1,Option.bind_some,aft_inr,h2]
theorem s_regL {n:Nat}{W:Int→Prop}(hn:n≤256) (p:List Int) (q:Bool):s_RegionOf ⟨wonL n W,p⟩ (b2i q)=some (regL W q n):=by
 have hl:=wonL_len n W
 unfold s_RegionOf
 obtain⟨o,w1,w2⟩:=while_out (f:=s_RegionOf_b0 ⟨wonL n W,p⟩ (b2i q)) (fun j (t:List Int×Int)=>t=(regL W q j,(j:Int))∧j≤n) (fun _=>False) (fun t=>t.1=regL W q n) n (fun j t ⟨a1,a2⟩=>by
  subst a1
  unfold s_RegionOf_b0
  dsimp only
  rw[hl]
  by_cases hlt:j<n
  · have hx:Xn n (j:Int):=⟨by omega,by omega⟩
    have:=regL_len (W:=W) (q:=q) (j:=j)
    have hw:IntKind.i64.wrap ((j:Int)+1)=((j+1:Nat):Int):=by rw[wr' (by omega) (by omega)];omega
    simp only[decide_eq_true (show(j:Int)<(n:Int) by omega),decide_eq_true (show(n:Int)≤256 by omega),cond_true,Option.bind_some,wonL_idx hx,b2i_beq,app1 (show(regL W q j).length≤10000000000 by omega) (show Nat.ble 8 1024=true from rfl),hw]
    by_cases e:wB W (j:Int)=q
    · rw[show(wB W (j:Int)==q)=true from by simpa using e]
      refine⟨_,rfl,hlt,?_,by omega⟩
      rw[regL_succ,if_pos e]
    · rw[show(wB W (j:Int)==q)=false from by simpa using e]
      refine⟨_,rfl,hlt,?_,by omega⟩
      rw[regL_succ,if_neg e,List.append_nil]
  · simp only[decide_eq_false (show ¬(j:Int)<(n:Int) by omega),cond_false,Option.bind_some]
    have e:j=n:=by omega
    subst e
    exact⟨_,rfl,rfl⟩) (2 ^ 64) 0 ([],0) (by omega) ⟨rfl,by omega⟩ (by omega)
 match o,w2 with
 | .inr t,w2=>rw[w1,Option.bind_some,aft_inr,w2]
theorem parts {g:Parity}{n:Nat}(h:GOk g n){A k:List Int}(hk:k.length=n) (q:Bool):∃L,s_l6Part g ⟨A,k⟩ (b2i q)=some L∧i_partOf g ⟨A,k⟩ (b2i q)=some L∧L.length=n∧∀v,Xn n v→pkL L v=if(gI g).own v=q then pkL k v else -1:=by
 have hn:=h.n256
 have hbq:∀v,Xn n v→(b2i ((gI g).own v)==b2i q)=decide ((gI g).own v=q):=fun v _=>by
  rw[b2i_beq,Bool.eq_iff_iff];simp
 -- the program
 have hno:i_noPlan g.Arena=some (List.replicate n (-1)):=by
  unfold i_noPlan
  rw[h.lo,mkS_nat (by omega) rfl,Option.bind_some,List.length_replicate]
  obtain⟨s,h1,h2,h3⟩:=fill (f:=i_noPlan_b0) (fun _=> -1) n (s0:=List.replicate n 0) (by simp) (fun j s hj hs=>rfl)
  rw[h1,Option.bind_some,aft_inr]
  congr 1
  apply List.ext_getElem?
  intro i
  rw[List.getElem?_replicate]
  by_cases hi:i<n
  · rw[if_pos hi,← idx_nat];exact h3 i hi
  · rw[if_neg hi];exact List.getElem?_eq_none (by omega)
 obtain⟨s,e1,e2,e3⟩:=cnt_inv (f:=i_partOf_b0 g ⟨A,k⟩ (b2i q)) (fun j (s:List Int)=>s.length=n∧∀v,Xn n v→pkL s v=if v<j∧(gI g).own v=q then pkL k v else -1) n (s:=List.replicate n (-1)) ⟨by simp,fun v hv=>by
  have:¬(v<((0:Nat):Int)∧(gI g).own v=q):=fun h=>by have:=hv.1;have:=h.1;omega
  rw[if_neg this]
  exact pkL_eq (by rw[idx_int hv.1,List.getElem?_replicate,if_pos (by have:=hv.1;have:=hv.2;omega)])⟩ (fun j s hj ⟨q1,q2⟩=>by
  have hv:Xn n (j:Int):=⟨by omega,by omega⟩
  unfold i_partOf_b0
  dsimp only
  rw[pkL_get hk hv.1 hv.2,Option.bind_some,own_idx h hv,Option.bind_some,hbq _ hv]
  obtain⟨old,ho⟩:=idx_some (xs:=s) (i:=(j:Int)) (by omega) (by omega)
  obtain⟨s',hs,hl⟩:=setI_some (xs:=s) (i:=(j:Int)) (pkL k j) (by omega) (by omega)
  by_cases e:(gI g).own (j:Int)=q
  · rw[decide_eq_true e,cond_true,ho,Option.bind_some,hs,Option.bind_some,Option.bind_some]
    refine⟨_,rfl,by omega,fun v hvx=>?_⟩
    rw[pkL_set hs]
    unfold Par.updF
    by_cases ev:v=j
    · subst ev
      rw[if_pos rfl,if_pos ⟨by omega,e⟩]
    · rw[if_neg ev,q2 v hvx]
      by_cases c:v<j∧(gI g).own v=q
      · rw[if_pos c,if_pos ⟨by have:=c.1;omega,c.2⟩]
      · rw[if_neg c,if_neg (fun c'=>c ⟨by have:=c'.1;omega,c'.2⟩)]
  · rw[decide_eq_false e,cond_false,Option.bind_some]
    refine⟨_,rfl,q1,fun v hvx=>?_⟩
    rw[q2 v hvx]
    by_cases c:v<j∧(gI g).own v=q
    · rw[if_pos c,if_pos ⟨by have:=c.1;omega,c.2⟩]
    · rw[if_neg c,if_neg (fun c'=>c ⟨by
       have h1:=c'.1
       have:v≠j:=fun e'=>e (e' ▸ c'.2)
       omega,c'.2⟩)])
 -- the reference
 obtain⟨t,f1,f2,f3⟩:=cnt_inv (f:=s_l6Part_b0 g ⟨A,k⟩ (b2i q)) (fun j (t:List Int)=>t.length=j∧∀i:Nat,i<j→t[i]? =some (if(gI g).own (i:Int)=q then pkL k i else -1)) n (s:=[]) ⟨rfl,fun i hi=>absurd hi (Nat.not_lt_zero i)⟩ (fun j t hj ⟨q1,q2⟩=>by
  have hv:Xn n (j:Int):=⟨by omega,by omega⟩
  unfold s_l6Part_b0
  dsimp only
  rw[own_idx h hv,Option.bind_some,hbq _ hv,pkL_get hk hv.1 hv.2,app1 (by omega) rfl]
  simp only[Option.bind_some,app1 (show t.length≤10000000000 by omega) (show Nat.ble 8 1024=true from rfl)]
  have fin:∀x:Int,x=(if(gI g).own (j:Int)=q then pkL k j else -1)→(t++[x]).length=j+1∧∀i:Nat,i<j+1→(t++[x])[i]? =some (if(gI g).own (i:Int)=q then pkL k i else -1):=fun x hx=>by
   refine⟨by simp[q1],fun i hi=>?_⟩
   by_cases c:i<j
   · rw[List.getElem?_append_left (by omega)];exact q2 i c
   · have:i=j:=by omega
     subst this
     rw[List.getElem?_append_right (by omega),q1,Nat.sub_self,← hx];rfl
  by_cases e:(gI g).own (j:Int)=q
  · rw[decide_eq_true e]
    exact⟨_,rfl,fin _ (by rw[if_pos e])⟩
  · rw[decide_eq_false e]
    exact⟨_,rfl,fin _ (by rw[if_neg e])⟩)
 have hpt:∀v,Xn n v→pkL t v=if(gI g).own v=q then pkL k v else -1:=fun v hv=>by
  obtain⟨i,hi⟩:=ex_nat hv.1
  subst hi
  exact pkL_eq (by rw[idx_nat];exact f3 i (by have:=hv.2;omega))
 have hst:s=t:=by
  apply List.ext_getElem?
  intro i
  by_cases hi:i<n
  · have hv:Xn n (i:Int):=⟨by omega,by omega⟩
    have h1:=pkL_get e2 hv.1 hv.2
    have h2:=pkL_get f2 hv.1 hv.2
    rw[idx_nat]at h1 h2
    rw[h1,h2,hpt _ hv,e3 _ hv]
    by_cases c:(gI g).own (i:Int)=q
    · rw[if_pos ⟨by omega,c⟩,if_pos c]
    · rw[if_neg (fun c'=>c c'.2),if_neg c]
  · rw[List.getElem?_eq_none (by omega),List.getElem?_eq_none (by omega)]
 refine⟨t,?_,?_,f2,hpt⟩
 · unfold s_l6Part
   dsimp only
   rw[hk,f1,Option.bind_some,aft_inr]
 · unfold i_partOf
   dsimp only
   rw[hno,Option.bind_some,hk,e1,Option.bind_some,aft_inr,hst]
end Go.Proofs.YtmiilifclnanlaaGreat
set_option linter.unusedVariables false
set_option linter.unusedSimpArgs false
namespace Go.Proofs.YtmiilifclnanlaaGreat
open Go Go.Wk Go.Proofs
open Classical
theorem all_range {c:Nat→Bool}{n:Nat}:(List.range n).all c=true↔∀i,i<n→c i=true:=by
 rw[List.all_eq_true]
 exact⟨fun h i hi=>h i (List.mem_range.2 hi),fun h i hi=>h i (List.mem_range.1 hi)⟩
theorem s_marks {n:Nat}(hn:n≤256){L:List Int}(hL:∀v∈L,0≤v∧v<n):∃R,s_l1Marks L (n:Int)=some R∧R.length=n∧∀v,In R v↔v∈L:=by
 unfold s_l1Marks
 rw[mkS_nat (by omega) rfl,Option.bind_some]
 obtain⟨s,h1,h2,h3⟩:=cnt_inv (f:=s_l1Marks_b0 L) (fun j (s:List Bool)=>s.length=n∧∀v:Int,0≤v→v<n→idx s v=some (decide (v∈L.take j))) L.length (s:=List.replicate n false) ⟨by simp,fun v v0 v1=>by
  rw[idx_int v0,List.getElem?_replicate,if_pos (by omega)];simp⟩ (fun j s hj ⟨q1,q2⟩=>by
  have hu:L[j]? =some L[j]:=List.getElem?_eq_getElem hj
  generalize L[j]=u at hu
  obtain⟨u0,u1⟩:=hL u (List.mem_of_getElem? hu)
  obtain⟨s',hs,hl⟩:=setI_some (xs:=s) (i:=u) true u0 (by omega)
  unfold s_l1Marks_b0
  rw[idx_nat,hu,Option.bind_some,q2 u u0 u1,Option.bind_some,hs,Option.bind_some]
  refine⟨_,rfl,by omega,fun v v0 v1=>?_⟩
  rw[idx_setI hs,take_one hu]
  by_cases e:v=u
  · rw[if_pos e];simp[e]
  · rw[if_neg e,q2 v v0 v1];simp[e])
 rw[h1,Option.bind_some,aft_inr]
 refine⟨s,rfl,h2,fun v=>?_⟩
 rw[List.take_length]at h3
 constructor
 · intro hi
   have hi':=In_of h2 hi
   unfold In at hi
   rw[h3 v hi'.1 hi'.2]at hi
   simpa using hi
 · intro hm
   obtain⟨v0,v1⟩:=hL v hm
   unfold In
   rw[h3 v v0 v1]
   simpa using hm
structure Form (g:Parity) (n:Nat) (W:Int→Prop) (k:List Int):Prop where
 len:k.length=n
 mine:∀v,Xn n v→(gI g).own v=wB W v→(gI g).E v (pkL k v)
 free:∀v,Xn n v→¬(gI g).own v=wB W v→pkL k v= -1
def ClosedP (g:Parity) (n:Nat) (W:Int→Prop) (k:List Int) (q:Bool):Prop:=∀v,Par.Rg (Xn n) (wB W) q v→((gI g).own v=q→wB W (pkL k v)=q)∧(¬(gI g).own v=q→∀u,(gI g).E v u→wB W u=q)
def CleanP (g:Parity) (n:Nat) (W:Int→Prop) (k:List Int) (q:Bool):Prop:=∀v,Par.Rg (Xn n) (wB W) q v→¬Par.oddP ((gI g).pri v)=q→¬Par.Loop (Par.pickG (gI g) (pkL k)) (fun x=>Par.Rg (Xn n) (wB W) q x∧(gI g).pri x≤(gI g).pri v) v
section
variable {g:Parity}{n:Nat}(hp:parityOk g=true) (hn:n=g.Prio.length){W:Int→Prop}{k:List Int}(hF:Form g n W k){q:Bool}{L:List Int}(hLl:L.length=n) (hL:∀v,Xn n v→pkL L v=if(gI g).own v=q then pkL k v else -1)
include hp hn hF hLl hL
omit hLl in
theorem part_mine {v:Int}(hv:Par.Rg (Xn n) (wB W) q v):((gI g).own v=q→pkL L v=pkL k v∧(gI g).E v (pkL k v)∧0≤pkL k v)∧(¬(gI g).own v=q→pkL L v= -1∧pkL k v= -1):=by
 have h:=GOk.of hp
 rw[← hn]at h
 refine⟨fun ho=>?_,fun ho=>?_⟩
 · have hE:=hF.mine v hv.1 (by rw[ho,hv.2])
   exact⟨by rw[hL v hv.1,if_pos ho],hE,(E_rng h hE).2.1⟩
 · exact⟨by rw[hL v hv.1,if_neg ho],hF.free v hv.1 (by rw[hv.2];exact ho)⟩
omit hF hLl hL in
theorem set_ok:s_l1Set (regL W q n) (n:Int)=some true:=by
 have h:=GOk.of hp
 rw[← hn]at h
 have hn256:=h.n256
 have hrl:=regL_len (W:=W) (q:=q) (j:=n)
 rw[s_l1Set_eq (by omega) (by omega) (by omega),setOk_iff.2 ⟨fun v hv=>(mem_regL.1 hv).1,regL_asc⟩]
theorem plan_ok:s_PlanOk g.Arena (b2i q) L=some true:=by
 have h:=GOk.of hp
 rw[← hn]at h
 have hn256:=h.n256
 have hplan:s_l5Plan g.Arena (b2i q) L=some true:=by
  unfold s_l5Plan
  rw[hLl,h.lo,show((n:Int) !=(n:Int))=false from by simp,cond_false]
  have hc:=cnt_allI (f:=s_l5Plan_b0 g.Arena (b2i q) L) (r:=false) (fun _=>true) n (fun i hi=>by
   have hv:Xn n (i:Int):=⟨by omega,by omega⟩
   unfold s_l5Plan_b0
   rw[pkL_get hLl hv.1 hv.2,Option.bind_some,hL _ hv]
   by_cases ho:(gI g).own (i:Int)=q
   · rw[if_pos ho]
     by_cases hw:wB W (i:Int)=q
     · have hE:=hF.mine _ hv (by rw[ho,hw])
       have h0:=(E_rng h hE).2.1
       obtain⟨row,hr⟩:=idx_some (xs:=g.Arena.Next) (i:=(i:Int)) (by omega) (by have:=h.ln;omega)
       have hE':pkL k (i:Int)∈rowI g.Arena (i:Int):=hE
       rw[rowI_eq hr]at hE'
       rw[show(pkL k (i:Int) != -1)=true from by simpa using (show pkL k (i:Int)≠ -1 by omega),cond_true,own_idx h hv,Option.bind_some,ho,show(b2i q !=b2i q)=false from by simp,cond_false,Option.bind_some,hr,Option.bind_some,s_l1Has_eq,decide_eq_true hE']
       rfl
     · rw[hF.free _ hv (by rw[ho];exact fun e=>hw e.symm)]
       rfl
   · rw[if_neg ho];rfl)
  rw[hc,all_range.2 (fun i hi=>rfl)]
  rfl
 have ha:arenaOk g.Arena=true:=by
  have hp':=hp
  unfold parityOk at hp'
  rw[Bool.and_eq_true,Bool.and_eq_true]at hp'
  exact hp'.1.1
 unfold s_PlanOk
 rw[s_ArenaOk_eq,ha,Option.bind_some,cond_true,s_l1In_eq,hplan]
 cases q <;> rfl
theorem closed_same:∃b,s_ClosedIn g.Arena (b2i q) (regL W q n) L=some b∧i_closedIn g.Arena (b2i q) (regL W q n) L=some b∧(b=true↔ClosedP g n W k q):=by
 have h:=GOk.of hp
 rw[← hn]at h
 have hn256:=h.n256
 obtain⟨o1,o2,o3,o4,o5⟩:=parityOk_spec hp
 have hrl:=regL_len (W:=W) (q:=q) (j:=n)
 have hreg:∀v∈regL W q n,0≤v∧v<n:=fun v hv=>(mem_regL.1 hv).1
 obtain⟨R,r1,r2,r3⟩:=s_marks hn256 hreg
 obtain⟨R',t1,t2,t3⟩:=markI_eq h hreg
 have hRw:∀{B:List Bool},B.length=n→(∀v,In B v↔v∈regL W q n)→∀u,Xn n u→idx B u=some (wB W u==q):=fun {B} hl hB u hu=>by
  rw[In_get (B:=B) hu.1 (by rw[hl];exact hu.2)]
  congr 1
  rw[Bool.eq_iff_iff,decide_eq_true_iff,hB,mem_regL]
  unfold Par.Rg
  simp[hu]
 have hset:=set_ok hp hn (W:=W) (q:=q)
 have hPlanOk:=plan_ok hp hn hF hLl hL
 refine⟨(regL W q n).all fun v=>decide (((gI g).own v=q→wB W (pkL k v)=q)∧(¬(gI g).own v=q→∀u,(gI g).E v u→wB W u=q)),?_,?_,?_⟩
 · -- the reference
   unfold s_ClosedIn
   rw[hPlanOk,Option.bind_some,h.lo,hset]
   simp only[Bool.not_true,cond_false,Option.bind_some]
   rw[r1,Option.bind_some]
   rw[cnt_all0 (f:=s_ClosedIn_b0 g.Arena (b2i q) (regL W q n) L R) (r:=false) (fun v=>decide (((gI g).own v=q→wB W (pkL k v)=q)∧(¬(gI g).own v=q→∀u,(gI g).E v u→wB W u=q))) (xs:=regL W q n) rfl (fun i v hv=>by
    have hvR:=mem_regL.1 (List.mem_of_getElem? hv)
    have hv0:=hvR.1
    obtain⟨pm1,pm2⟩:=part_mine hp hn hF hL hvR
    unfold s_ClosedIn_b0
    rw[idx_nat,hv,Option.bind_some,own_idx h hv0,Option.bind_some,b2i_beq]
    by_cases ho:(gI g).own v=q
    · obtain⟨a1,a2,a3⟩:=pm1 ho
      rw[show((gI g).own v==q)=true from by simpa using ho,cond_true,pkL_get hLl hv0.1 hv0.2,a1,Option.bind_some,decide_eq_false (by omega),cond_false,Option.bind_some,hRw r2 r3 _ (E_rng h a2).2,Option.bind_some,Option.bind_some]
      by_cases hw:wB W (pkL k v)=q
      · rw[show(wB W (pkL k v)==q)=true from by simpa using hw,decide_eq_true ⟨fun _=>hw,fun h'=>absurd ho h'⟩];rfl
      · rw[show(wB W (pkL k v)==q)=false from by simpa using hw,decide_eq_false (fun h'=>hw (h'.1 ho))];rfl
    · rw[show((gI g).own v==q)=false from by simpa using ho,cond_false]
      obtain⟨row,hr⟩:=idx_some (xs:=g.Arena.Next) (i:=v) hv0.1 (by have:=h.ln;have:=hv0.2;omega)
      obtain⟨q1,q2,q3⟩:=h.row v row hr
      rw[while_all (f:=s_ClosedIn_b2 g.Arena R v) (r:=false) (xs:=row) (fun u=>wB W u==q) (by omega) (fun j u hu=>by
       have hju:=(List.getElem?_eq_some_iff.1 hu).1
       unfold s_ClosedIn_b2
       rw[hr,Option.bind_some,decide_eq_true (show(j:Int)<(row.length:Int) by omega),cond_true,Option.bind_some,idx_nat,hu,Option.bind_some,hRw r2 r3 u (q3 u (List.mem_of_getElem? hu)),Option.bind_some]
       have hw:IntKind.i64.wrap ((j:Int)+1)=((j+1:Nat):Int):=by rw[wr' (by omega) (by omega)];omega
       rw[hw]
       cases wB W u==q <;> rfl) (by
       unfold s_ClosedIn_b2
       rw[hr,Option.bind_some,decide_eq_false (by omega)];rfl),Option.bind_some]
      have key:(row.all fun u=>wB W u==q)=decide (((gI g).own v=q→wB W (pkL k v)=q)∧(¬(gI g).own v=q→∀u,(gI g).E v u→wB W u=q)):=by
       rw[Bool.eq_iff_iff,List.all_eq_true,decide_eq_true_iff]
       constructor
       · intro ha
         refine⟨fun h'=>absurd h' ho,fun _ u hu=>?_⟩
         have hu':u∈rowI g.Arena v:=hu
         rw[rowI_eq hr]at hu'
         simpa using ha u hu'
       · rintro⟨_,ha⟩ u hu
         simpa using ha ho u (by show u∈rowI g.Arena v;rw[rowI_eq hr];exact hu)
      rw[key]
      cases decide (((gI g).own v=q→wB W (pkL k v)=q)∧(¬(gI g).own v=q→∀u,(gI g).E v u→wB W u=q)) <;> rfl),Option.bind_some]
   cases((regL W q n).all fun v=>decide (((gI g).own v=q→wB W (pkL k v)=q)∧(¬(gI g).own v=q→∀u,(gI g).E v u→wB W u=q))) <;> rfl
 · -- the program
   unfold i_closedIn
   rw[t1,Option.bind_some]
   rw[cnt_all0 (f:=i_closedIn_b0 g.Arena (b2i q) (regL W q n) L R') (r:=false) (fun v=>decide (((gI g).own v=q→wB W (pkL k v)=q)∧(¬(gI g).own v=q→∀u,(gI g).E v u→wB W u=q))) (xs:=regL W q n) rfl (fun i v hv=>by
    have hvR:=mem_regL.1 (List.mem_of_getElem? hv)
    have hv0:=hvR.1
    obtain⟨pm1,pm2⟩:=part_mine hp hn hF hL hvR
    unfold i_closedIn_b0
    rw[idx_nat,hv,Option.bind_some,own_idx h hv0,Option.bind_some,b2i_beq]
    by_cases ho:(gI g).own v=q
    · obtain⟨a1,a2,a3⟩:=pm1 ho
      rw[show((gI g).own v==q)=true from by simpa using ho,cond_true,pkL_get hLl hv0.1 hv0.2,a1,Option.bind_some,decide_eq_false (by omega),cond_false,Option.bind_some,hRw t2 t3 _ (E_rng h a2).2,Option.bind_some,Option.bind_some]
      by_cases hw:wB W (pkL k v)=q
      · rw[show(wB W (pkL k v)==q)=true from by simpa using hw,decide_eq_true ⟨fun _=>hw,fun h'=>absurd ho h'⟩];rfl
      · rw[show(wB W (pkL k v)==q)=false from by simpa using hw,decide_eq_false (fun h'=>hw (h'.1 ho))];rfl
    · rw[show((gI g).own v==q)=false from by simpa using ho,cond_false]
      obtain⟨row,hr⟩:=idx_some (xs:=g.Arena.Next) (i:=v) hv0.1 (by have:=h.ln;have:=hv0.2;omega)
      obtain⟨q1,q2,q3⟩:=h.row v row hr
      rw[hr,Option.bind_some]
      rw[cnt_all0 (f:=i_closedIn_b2 R' row) (r:=false) (xs:=row) (fun u=>wB W u==q) rfl (fun j u hu=>by
       unfold i_closedIn_b2
       rw[idx_nat,hu,Option.bind_some,hRw t2 t3 u (q3 u (List.mem_of_getElem? hu)),Option.bind_some]
       cases wB W u==q <;> rfl),Option.bind_some]
      have key:(row.all fun u=>wB W u==q)=decide (((gI g).own v=q→wB W (pkL k v)=q)∧(¬(gI g).own v=q→∀u,(gI g).E v u→wB W u=q)):=by
       rw[Bool.eq_iff_iff,List.all_eq_true,decide_eq_true_iff]
       constructor
       · intro ha
         refine⟨fun h'=>absurd h' ho,fun _ u hu=>?_⟩
         have hu':u∈rowI g.Arena v:=hu
         rw[rowI_eq hr]at hu'
         simpa using ha u hu'
       · rintro⟨_,ha⟩ u hu
         simpa using ha ho u (by show u∈rowI g.Arena v;rw[rowI_eq hr];exact hu)
      rw[key]
      cases decide (((gI g).own v=q→wB W (pkL k v)=q)∧(¬(gI g).own v=q→∀u,(gI g).E v u→wB W u=q)) <;> rfl),Option.bind_some]
   cases((regL W q n).all fun v=>decide (((gI g).own v=q→wB W (pkL k v)=q)∧(¬(gI g).own v=q→∀u,(gI g).E v u→wB W u=q))) <;> rfl
 · rw[List.all_eq_true]
   unfold ClosedP
   constructor
   · intro ha v hv
     exact of_decide_eq_true (ha v (mem_regL.2 hv))
   · intro ha v hv
     exact decide_eq_true (ha v (mem_regL.1 hv))
theorem right6:s_l6Right g (b2i q) (regL W q n) L=some true:=by
 unfold s_l6Right s_l4Set
 rw[s_ParityOk_eq,hp,Option.bind_some,cond_true,plan_ok hp hn hF hLl hL,← hn,set_ok hp hn]
 rfl
noncomputable def rowK (g:Parity) (L:List Int) (v:Int):List Int:=if 0≤pkL L v then[pkL L v] else rowI g.Arena v
theorem rowK_ok {v:Int}(hv:Xn n v):(rowK g L v).length≤16∧∀u∈rowK g L v,Xn n u:=by
 have h:=GOk.of hp
 rw[← hn]at h
 obtain⟨row,hr⟩:=idx_some (xs:=g.Arena.Next) (i:=v) hv.1 (by have:=h.ln;have:=hv.2;omega)
 obtain⟨q1,q2,q3⟩:=h.row v row hr
 unfold rowK
 by_cases e:0≤pkL L v
 · rw[if_pos e]
   refine⟨by simp,fun u hu=>?_⟩
   rw[List.mem_singleton]at hu
   subst hu
   have hLv:=hL v hv
   by_cases ho:(gI g).own v=q
   · rw[if_pos ho]at hLv
     by_cases hw:(gI g).own v=wB W v
     · rw[hLv];exact(E_rng h (hF.mine v hv hw)).2
     · rw[hLv,hF.free v hv hw]at e;omega
   · rw[if_neg ho]at hLv
     rw[hLv]at e;omega
 · rw[if_neg e,rowI_eq hr]
   exact⟨q1,q3⟩
omit hF hL in
theorem edges_ok:∃N,s_l6Edges g.Arena L=some N∧N.length=n∧∀v,Xn n v→idx N v=some (rowK g L v):=by
 have h:=GOk.of hp
 rw[← hn]at h
 have hn256:=h.n256
 unfold s_l6Edges
 rw[h.ln]
 obtain⟨s,h1,h2,h3⟩:=cnt_inv (f:=s_l6Edges_b0 g.Arena L) (fun j (s:List (List Int))=>s.length=j∧∀i:Nat,i<j→s[i]? =some (rowK g L i)) n (s:=[]) ⟨rfl,fun i hi=>absurd hi (Nat.not_lt_zero i)⟩ (fun j s hj ⟨q1,q2⟩=>by
  have hv:Xn n (j:Int):=⟨by omega,by omega⟩
  obtain⟨row,hr⟩:=idx_some (xs:=g.Arena.Next) (i:=(j:Int)) hv.1 (by have:=h.ln;have:=hv.2;omega)
  have fin:∀x:List Int,x=rowK g L j→(s++[x]).length=j+1∧∀i:Nat,i<j+1→(s++[x])[i]? =some (rowK g L i):=fun x hx=>by
   refine⟨by simp[q1],fun i hi=>?_⟩
   by_cases c:i<j
   · rw[List.getElem?_append_left (by omega)];exact q2 i c
   · have:i=j:=by omega
     subst this
     rw[List.getElem?_append_right (by omega),q1,Nat.sub_self,← hx];rfl
  unfold s_l6Edges_b0
  rw[pkL_get hLl hv.1 hv.2,Option.bind_some,hr]
  simp only[Option.bind_some,app1 (show s.length≤10000000000 by omega) (show Nat.ble 24 1024=true from rfl)]
  by_cases e:0≤pkL L (j:Int)
  · rw[decide_eq_true e]
    exact⟨_,rfl,fin _ (by unfold rowK;rw[if_pos e])⟩
  · rw[decide_eq_false e]
    exact⟨_,rfl,fin _ (by unfold rowK;rw[if_neg e,rowI_eq hr])⟩)
 rw[h1,Option.bind_some,aft_inr]
 refine⟨s,rfl,h2,fun v hv=>?_⟩
 obtain⟨i,hi⟩:=ex_nat hv.1
 subst hi
 rw[idx_nat]
 exact h3 i (by have:=hv.2;omega)
omit hF hL in
theorem fixed_ok:∃N,i_fixedBy g.Arena L=some ⟨g.Arena.Owner,N⟩∧N.length=n∧∀v,Xn n v→idx N v=some (rowK g L v):=by
 have h:=GOk.of hp
 rw[← hn]at h
 obtain⟨s,h1,h2,h3⟩:=i_fixedBy_eq hp hn hLl
 refine⟨s,h1,h2,fun v hv=>?_⟩
 obtain⟨row,hr⟩:=idx_some (xs:=g.Arena.Next) (i:=v) hv.1 (by have:=h.ln;have:=hv.2;omega)
 rw[h3 v row hr]
 unfold rowK
 rw[rowI_eq hr]
end
end Go.Proofs.YtmiilifclnanlaaGreat
set_option linter.unusedVariables false
set_option linter.unusedSimpArgs false
namespace Go.Proofs.YtmiilifclnanlaaGreat
open Go Go.Wk Go.Proofs
open Classical
theorem rch_close {H:Par.Gm}{Y C:Int→Prop}(hC:∀a b,C a→Y a→H.E a b→Y b→C b){v x:Int}(h:Par.Rch H Y v x) (hv:C v):C x:=by
 induction h with
 | refl _=>exact hv
 | step h1 h2 h3 ih=>exact ih (hC _ _ hv h1 h2 h3.fst)
section
variable {g:Parity}{n:Nat}(hp:parityOk g=true) (hn:n=g.Prio.length){W:Int→Prop}{k:List Int}(hF:Form g n W k){q:Bool}{L:List Int}(hLl:L.length=n) (hL:∀v,Xn n v→pkL L v=if(gI g).own v=q then pkL k v else -1)
include hp hn hF hL
omit hp hn in
theorem rowK_E {v u:Int}(hv:Xn n v):u∈rowK g L v↔(Par.pickG (gI g) (pkL L)).E v u:=by
 show _↔u∈rowI g.Arena v∧(pkL L v<0∨pkL L v=u)
 unfold rowK
 by_cases e:0≤pkL L v
 · rw[if_pos e,List.mem_singleton]
   have hE:pkL L v∈rowI g.Arena v:=by
    have hLv:=hL v hv
    by_cases ho:(gI g).own v=q
    · rw[if_pos ho]at hLv
      by_cases hw:(gI g).own v=wB W v
      · rw[hLv];exact hF.mine v hv hw
      · rw[hLv,hF.free v hv hw]at e;omega
    · rw[if_neg ho]at hLv
      rw[hLv]at e;omega
   constructor
   · intro h';subst h';exact⟨hE,.inr rfl⟩
   · rintro⟨_,h' | h'⟩
     · omega
     · exact h'.symm
 · rw[if_neg e]
   exact⟨fun h'=>⟨h',.inl (by omega)⟩,fun h'=>h'.1⟩
theorem loop_part {Y:Int→Prop}(hY:∀x,Y x→Par.Rg (Xn n) (wB W) q x){v:Int}:Par.Loop (Par.pickG (gI g) (pkL L)) Y v↔Par.Loop (Par.pickG (gI g) (pkL k)) Y v:=by
 have key:∀a,Y a→pkL L a=pkL k a:=fun a ha=>by
  obtain⟨h1,h2⟩:=part_mine hp hn hF hL (hY a ha)
  by_cases ho:(gI g).own a=q
  · exact(h1 ho).1
  · rw[(h2 ho).1,(h2 ho).2]
 constructor
 · intro h
   refine h.mono (fun _ h=>h) fun a b ha _ he=>?_
   obtain⟨e1,e2⟩:=he
   exact⟨e1,by rw[← key a ha];exact e2⟩
 · intro h
   refine h.mono (fun _ h=>h) fun a b ha _ he=>?_
   obtain⟨e1,e2⟩:=he
   exact⟨e1,by rw[key a ha];exact e2⟩
def Bad (g:Parity) (n:Nat) (W:Int→Prop) (k:List Int) (q:Bool) (v:Int):Prop:=¬Par.oddP ((gI g).pri v)=q∧Par.Loop (Par.pickG (gI g) (pkL k)) (fun x=>Par.Rg (Xn n) (wB W) q x∧(gI g).pri x≤(gI g).pri v) v
include hLl
theorem s_bad1 {N:List (List Int)}(hN:N.length=n) (hNr:∀v,Xn n v→idx N v=some (rowK g L v)){j:Nat}{v:Int}(hv:(regL W q n)[j]? =some v){s:List Int}(hs:s.length≤j):s_BadLoops_b0 g (b2i q) (regL W q n) N (j:Int) s=some (.inr (.inr (if Bad g n W k q v then s++[v] else s))):=by
 have h:=GOk.of hp
 rw[← hn]at h
 have hn256:=h.n256
 have hrl:=regL_len (W:=W) (q:=q) (j:=n)
 have hvR:=mem_regL.1 (List.mem_of_getElem? hv)
 have hv0:=hvR.1
 have hpv:idx g.Prio v=some ((gI g).pri v):=priL_get hv0.1 (by have:=h.lp;have:=hv0.2;omega)
 have hpr:=h.pri v _ hpv
 have hjl:=(List.getElem?_eq_some_iff.1 hv).1
 unfold s_BadLoops_b0
 rw[idx_nat,hv,Option.bind_some,hpv,Option.bind_some,tmod_who hpr.1,b2i_beq]
 by_cases ho:Par.oddP ((gI g).pri v)=q
 · rw[show(Par.oddP ((gI g).pri v)==q)=true from by simpa using ho,cond_true,if_neg (fun hb=>hb.1 ho)]
 · rw[show(Par.oddP ((gI g).pri v)==q)=false from by simpa using ho,cond_false,← hn,mkS_nat (by omega) rfl,Option.bind_some]
   obtain⟨low,l1,l2,l3⟩:=cnt_inv (f:=s_BadLoops_b2 g (regL W q n) v) (fun i (s:List Bool)=>s.length=n∧∀u:Int,Xn n u→idx s u=some (decide (u∈(regL W q n).take i∧(gI g).pri u≤(gI g).pri v))) (regL W q n).length (s:=List.replicate n false) ⟨by simp,fun u hu=>by
    rw[idx_int hu.1,List.getElem?_replicate,if_pos (by have:=hu.1;have:=hu.2;omega)];simp⟩ (fun i s hi ⟨q1,q2⟩=>by
    have hu:(regL W q n)[i]? =some (regL W q n)[i]:=List.getElem?_eq_getElem hi
    generalize(regL W q n)[i]=u at hu
    have hu0:=(mem_regL.1 (List.mem_of_getElem? hu)).1
    have hpu:idx g.Prio u=some ((gI g).pri u):=priL_get hu0.1 (by have:=h.lp;have:=hu0.2;omega)
    obtain⟨s',hs,hl⟩:=setI_some (xs:=s) (i:=u) (decide ((gI g).pri u≤(gI g).pri v)) hu0.1 (by have:=hu0.2;omega)
    unfold s_BadLoops_b2
    rw[idx_nat,hu,Option.bind_some,Option.bind_some,hpu,Option.bind_some,hpv,Option.bind_some,q2 u hu0,Option.bind_some,hs,Option.bind_some]
    refine⟨_,rfl,by omega,fun x hx=>?_⟩
    rw[idx_setI hs,take_one hu]
    by_cases e:x=u
    · rw[if_pos e]
      subst e
      congr 1
      rw[Bool.eq_iff_iff];simp
    · rw[if_neg e,q2 x hx]
      congr 1
      rw[Bool.eq_iff_iff];simp[e])
   rw[List.take_length]at l3
   have hlow:∀x,In low x↔(Par.Rg (Xn n) (wB W) q x∧(gI g).pri x≤(gI g).pri v):=fun x=>by
    constructor
    · intro hi
      have hx:=In_of l2 hi
      unfold In at hi
      rw[l3 x hx]at hi
      have:=of_decide_eq_true (Option.some.inj hi)
      exact⟨mem_regL.1 this.1,this.2⟩
    · intro hi
      unfold In
      rw[l3 x hi.1.1,decide_eq_true ⟨mem_regL.2 hi.1,hi.2⟩]
   rw[l1,Option.bind_some,aft_inr]
   obtain⟨R,r1,r2,r3⟩:=s_beyond (row:=rowK g L) (Y:=fun x=>Par.Rg (Xn n) (wB W) q x∧(gI g).pri x≤(gI g).pri v) (S0:=fun x=>x=v) (Base:=fun _=>False) (Src:=fun x=>∃u,u∈rowK g L v∧Par.Rch (Par.pickG (gI g) (pkL L)) (fun x=>Par.Rg (Xn n) (wB W) q x∧(gI g).pri x≤(gI g).pri v) u x) (n:=n) (c:=v) (N:=N) (low:=low)
    (fun x x0 x1=>⟨hNr x ⟨x0,x1⟩,by have:=(rowK_ok hp hn hF hLl hL (v:=x) ⟨x0,x1⟩).1;omega,(rowK_ok hp hn hF hLl hL (v:=x) ⟨x0,x1⟩).2⟩) hn256 l2 hlow (by
     rintro x u (e | ⟨y,y1,y2⟩) hu hYu
     · subst e
       exact⟨u,hu,.refl hYu⟩
     · exact⟨y,y1,y2.snoc ((rowK_E hF hL y2.lst.1.1).1 hu) hYu⟩) hN hv0.1 hv0.2 (fun x=>Iff.rfl) (fun _ h=>h) (by
     rintro C _ hC x ⟨y,y1,y2⟩
     exact rch_close (C:=C) (fun a b ha hYa he hYb=>hC a b (.inr ha) ((rowK_E hF hL hYa.1.1).2 he) hYb) y2 (hC v y (.inl rfl) y1 y2.fst))
   have hRv:In R v↔Bad g n W k q v:=by
    rw[r3 v]
    have hlp:=loop_part hp hn hF hL (Y:=fun x=>Par.Rg (Xn n) (wB W) q x∧(gI g).pri x≤(gI g).pri v) (fun x hx=>hx.1) (v:=v)
    constructor
    · rintro⟨u,u1,u2⟩
      exact⟨ho,hlp.1 ⟨u,(rowK_E hF hL hv0).1 u1,u2⟩⟩
    · rintro⟨_,hb⟩
      obtain⟨u,u1,u2⟩:=hlp.2 hb
      exact⟨u,(rowK_E hF hL hv0).2 u1,u2⟩
   rw[r1,Option.bind_some,In_get (B:=R) hv0.1 (by have:=hv0.2;omega),Option.bind_some,app1 (by omega) rfl]
   by_cases hb:Bad g n W k q v
   · rw[if_pos hb,decide_eq_true (hRv.2 hb)];rfl
   · rw[if_neg hb,decide_eq_false (fun h'=>hb (hRv.1 h'))];rfl
theorem i_bad1 {N:List (List Int)}(hN:N.length=n) (hNr:∀v,Xn n v→idx N v=some (rowK g L v)){j:Nat}{v:Int}(hv:(regL W q n)[j]? =some v){s:List Int}(hs:s.length≤j):i_badLoops_b0 g (b2i q) (regL W q n) ⟨g.Arena.Owner,N⟩ (j:Int) s=some (.inr (.inr (if Bad g n W k q v then s++[v] else s))):=by
 have h:=GOk.of hp
 rw[← hn]at h
 have hn256:=h.n256
 have hrl:=regL_len (W:=W) (q:=q) (j:=n)
 have hvR:=mem_regL.1 (List.mem_of_getElem? hv)
 have hv0:=hvR.1
 have hpv:idx g.Prio v=some ((gI g).pri v):=priL_get hv0.1 (by have:=h.lp;have:=hv0.2;omega)
 have hpr:=h.pri v _ hpv
 have hjl:=(List.getElem?_eq_some_iff.1 hv).1
 unfold i_badLoops_b0
 rw[idx_nat,hv,Option.bind_some,hpv,Option.bind_some,tmod_who hpr.1,b2i_beq]
 by_cases ho:Par.oddP ((gI g).pri v)=q
 · rw[show(Par.oddP ((gI g).pri v)==q)=true from by simpa using ho,cond_true,if_neg (fun hb=>hb.1 ho)]
 · rw[show(Par.oddP ((gI g).pri v)==q)=false from by simpa using ho,cond_false,← hn,mkS_nat (by omega) rfl,Option.bind_some]
   obtain⟨low,l1,l2,l3⟩:=cnt_inv (f:=i_badLoops_b2 g (regL W q n) v) (fun i (s:List Bool)=>s.length=n∧∀u:Int,Xn n u→idx s u=some (decide (u∈(regL W q n).take i∧(gI g).pri u≤(gI g).pri v))) (regL W q n).length (s:=List.replicate n false) ⟨by simp,fun u hu=>by
    rw[idx_int hu.1,List.getElem?_replicate,if_pos (by have:=hu.1;have:=hu.2;omega)];simp⟩ (fun i s hi ⟨q1,q2⟩=>by
    have hu:(regL W q n)[i]? =some (regL W q n)[i]:=List.getElem?_eq_getElem hi
    generalize(regL W q n)[i]=u at hu
    have hu0:=(mem_regL.1 (List.mem_of_getElem? hu)).1
    have hpu:idx g.Prio u=some ((gI g).pri u):=priL_get hu0.1 (by have:=h.lp;have:=hu0.2;omega)
    obtain⟨s',hs,hl⟩:=setI_some (xs:=s) (i:=u) (decide ((gI g).pri u≤(gI g).pri v)) hu0.1 (by have:=hu0.2;omega)
    unfold i_badLoops_b2
    rw[idx_nat,hu,Option.bind_some,hpu,Option.bind_some,hpv,Option.bind_some,q2 u hu0,Option.bind_some,hs,Option.bind_some]
    refine⟨_,rfl,by omega,fun x hx=>?_⟩
    rw[idx_setI hs,take_one hu]
    by_cases e:x=u
    · rw[if_pos e]
      subst e
      congr 1
      rw[Bool.eq_iff_iff];simp
    · rw[if_neg e,q2 x hx]
      congr 1
      rw[Bool.eq_iff_iff];simp[e])
   rw[List.take_length]at l3
   have hlow:∀x,In low x↔(Par.Rg (Xn n) (wB W) q x∧(gI g).pri x≤(gI g).pri v):=fun x=>by
    constructor
    · intro hi
      have hx:=In_of l2 hi
      unfold In at hi
      rw[l3 x hx]at hi
      have:=of_decide_eq_true (Option.some.inj hi)
      exact⟨mem_regL.1 this.1,this.2⟩
    · intro hi
      unfold In
      rw[l3 x hi.1.1,decide_eq_true ⟨mem_regL.2 hi.1,hi.2⟩]
   obtain⟨rk1,rk2⟩:=rowK_ok hp hn hF hLl hL hv0
   rw[l1,Option.bind_some,aft_inr,Option.bind_some]
   dsimp only
   rw[hNr v hv0,Option.bind_some]
   obtain⟨first,f1,f2,f3⟩:=cnt_inv (f:=i_badLoops_b4 low (rowK g L v)) (fun i (s:List Bool)=>s.length=n∧∀u:Int,Xn n u→idx s u=some (decide (u∈(rowK g L v).take i∧In low u))) (rowK g L v).length (s:=List.replicate n false) ⟨by simp,fun u hu=>by
    rw[idx_int hu.1,List.getElem?_replicate,if_pos (by have:=hu.1;have:=hu.2;omega)];simp⟩ (fun i s hi ⟨q1,q2⟩=>by
    have hu:(rowK g L v)[i]? =some (rowK g L v)[i]:=List.getElem?_eq_getElem hi
    generalize(rowK g L v)[i]=u at hu
    have hu0:=rk2 u (List.mem_of_getElem? hu)
    obtain⟨s',hs,hl⟩:=setI_some (xs:=s) (i:=u) (decide (In low u)) hu0.1 (by have:=hu0.2;omega)
    unfold i_badLoops_b4
    rw[idx_nat,hu,Option.bind_some,In_get (B:=low) hu0.1 (by have:=hu0.2;omega),Option.bind_some,q2 u hu0,Option.bind_some,hs,Option.bind_some]
    refine⟨_,rfl,by omega,fun x hx=>?_⟩
    rw[idx_setI hs,take_one hu]
    by_cases e:x=u
    · rw[if_pos e]
      subst e
      congr 1
      rw[Bool.eq_iff_iff];simp
    · rw[if_neg e,q2 x hx]
      congr 1
      rw[Bool.eq_iff_iff];simp[e])
   rw[List.take_length]at f3
   have hfirst:∀x,(x∈rowK g L v∧(Par.Rg (Xn n) (wB W) q x∧(gI g).pri x≤(gI g).pri v))↔In first x:=fun x=>by
    constructor
    · rintro⟨h1,h2⟩
      unfold In
      rw[f3 x h2.1.1,decide_eq_true ⟨h1,(hlow x).2 h2⟩]
    · intro hi
      have hx:=In_of f2 hi
      unfold In at hi
      rw[f3 x hx]at hi
      have:=of_decide_eq_true (Option.some.inj hi)
      exact⟨this.1,(hlow x).1 this.2⟩
   rw[f1,Option.bind_some,aft_inr]
   obtain⟨R,r1,r2,r3⟩:=i_reach (row:=rowK g L) (Y:=fun x=>Par.Rg (Xn n) (wB W) q x∧(gI g).pri x≤(gI g).pri v) (S0:=fun _=>False) (Base:=fun x=>x∈rowK g L v∧(Par.Rg (Xn n) (wB W) q x∧(gI g).pri x≤(gI g).pri v)) (Src:=fun x=>∃u,u∈rowK g L v∧Par.Rch (Par.pickG (gI g) (pkL L)) (fun x=>Par.Rg (Xn n) (wB W) q x∧(gI g).pri x≤(gI g).pri v) u x) (n:=n) (N:=N) (low:=low)
    (fun x x0 x1=>⟨hNr x ⟨x0,x1⟩,by have:=(rowK_ok hp hn hF hLl hL (v:=x) ⟨x0,x1⟩).1;omega,(rowK_ok hp hn hF hLl hL (v:=x) ⟨x0,x1⟩).2⟩) hn256 l2 hlow (by
     rintro x u (e | ⟨y,y1,y2⟩) hu hYu
     · exact e.elim
     · exact⟨y,y1,y2.snoc ((rowK_E hF hL y2.lst.1.1).1 hu) hYu⟩) (a:=⟨g.Arena.Owner,N⟩) rfl f2 (by have:=hv0.1;have:=hv0.2;omega) (fun _ h=>h) hfirst (fun x hx=>⟨x,hx.1,.refl hx.2⟩) (by
     rintro C hB hC x ⟨y,y1,y2⟩
     exact rch_close (C:=C) (fun a b ha hYa he hYb=>hC a b (.inr ha) ((rowK_E hF hL hYa.1.1).2 he) hYb) y2 (hB y ⟨y1,y2.fst⟩))
   have hRv:In R v↔Bad g n W k q v:=by
    rw[r3 v]
    have hlp:=loop_part hp hn hF hL (Y:=fun x=>Par.Rg (Xn n) (wB W) q x∧(gI g).pri x≤(gI g).pri v) (fun x hx=>hx.1) (v:=v)
    constructor
    · rintro⟨u,u1,u2⟩
      exact⟨ho,hlp.1 ⟨u,(rowK_E hF hL hv0).1 u1,u2⟩⟩
    · rintro⟨_,hb⟩
      obtain⟨u,u1,u2⟩:=hlp.2 hb
      exact⟨u,(rowK_E hF hL hv0).2 u1,u2⟩
   rw[r1,Option.bind_some,In_get (B:=R) hv0.1 (by have:=hv0.2;omega),Option.bind_some,app1 (by omega) rfl]
   by_cases hb:Bad g n W k q v
   · rw[if_pos hb,decide_eq_true (hRv.2 hb)];rfl
   · rw[if_neg hb,decide_eq_false (fun h'=>hb (hRv.1 h'))];rfl
theorem clean_same:∃s,s_BadLoops g (b2i q) (regL W q n) L=some s∧i_badLoops g (b2i q) (regL W q n) L=some s∧(s=[]↔CleanP g n W k q):=by
 obtain⟨N,n1,n2,n3⟩:=edges_ok hp hn hLl
 obtain⟨M,m1,m2,m3⟩:=fixed_ok hp hn hLl
 obtain⟨s,t,f1,f2,e,f3,f4⟩:=cnt_sim (f:=s_BadLoops_b0 g (b2i q) (regL W q n) N) (g:=i_badLoops_b0 g (b2i q) (regL W q n) ⟨g.Arena.Owner,M⟩) (fun j (s t:List Int)=>s=t∧s.length≤j∧(s=[]↔∀v∈(regL W q n).take j,¬Bad g n W k q v)) (regL W q n).length (s:=[]) (t:=[]) ⟨rfl,by simp,by simp⟩ (fun j s t hj ⟨e,e1,e2⟩=>by
  subst e
  have hv:(regL W q n)[j]? =some (regL W q n)[j]:=List.getElem?_eq_getElem hj
  generalize(regL W q n)[j]=v at hv
  refine⟨_,_,s_bad1 hp hn hF hLl hL n2 n3 hv e1,i_bad1 hp hn hF hLl hL m2 m3 hv e1,rfl,?_,?_⟩
  · by_cases hb:Bad g n W k q v
    · rw[if_pos hb];simp;omega
    · rw[if_neg hb];omega
  · rw[take_one hv]
    by_cases hb:Bad g n W k q v
    · rw[if_pos hb]
      constructor
      · intro h;simp at h
      · intro h;exact absurd hb (h v (by simp))
    · rw[if_neg hb,e2]
      constructor
      · intro h x hx
        rcases List.mem_append.1 hx with hx | hx
        · exact h x hx
        · have:x=v:=by simpa using hx
          rw[this];exact hb
      · intro h x hx
        exact h x (List.mem_append_left _ hx))
 subst e
 rw[List.take_length]at f4
 refine⟨s,?_,?_,?_⟩
 · unfold s_BadLoops
   rw[right6 hp hn hF hLl hL,Option.bind_some,Bool.not_true,cond_false,n1,Option.bind_some,f1,Option.bind_some,aft_inr]
 · unfold i_badLoops
   rw[m1,Option.bind_some,f2,Option.bind_some,aft_inr]
 · rw[f4]
   unfold CleanP
   constructor
   · intro h v hv ho hl
     exact h v (mem_regL.2 hv) ⟨ho,hl⟩
   · intro h v hv hb
     exact h v (mem_regL.1 hv) hb.1 hb.2
theorem wins_same:∃b,s_WinsBy g (b2i q) (regL W q n) L=some b∧i_winsBy g (b2i q) (regL W q n) L=some b∧(b=true↔ClosedP g n W k q∧CleanP g n W k q):=by
 obtain⟨c,c1,c2,c3⟩:=closed_same hp hn hF hLl hL
 obtain⟨s,s1,s2,s3⟩:=clean_same hp hn hF hLl hL
 have hz:((s.length:Int)==0)=decide (CleanP g n W k q):=by
  rw[Bool.eq_iff_iff,decide_eq_true_iff,← s3]
  simp
 refine⟨c&&decide (CleanP g n W k q),?_,?_,?_⟩
 · unfold s_WinsBy s_CleanIn
   rw[right6 hp hn hF hLl hL,Option.bind_some,cond_true,s1,Option.bind_some,hz,c1]
   cases c <;> cases decide (CleanP g n W k q) <;> rfl
 · unfold i_winsBy
   rw[c2,Option.bind_some,s2,Option.bind_some,hz]
   cases c <;> cases decide (CleanP g n W k q) <;> rfl
 · rw[Bool.and_eq_true,c3,decide_eq_true_iff]
end
end Go.Proofs.YtmiilifclnanlaaGreat
set_option linter.unusedVariables false
set_option linter.unusedSimpArgs false
namespace Go.Proofs.YtmiilifclnanlaaGreat
open Go Go.Wk Go.Proofs
open Classical
noncomputable def formB (w o x:Int) (row:List Int):Bool:=(w==0||w==1)&&(if o=w then decide (x∈row) else x== -1)
noncomputable def formC (g:Parity) (a:Answer) (i:Nat):Bool:=match a.Won[i]?,g.Arena.Owner[i]?,a.Plan[i]?,g.Arena.Next[i]? with
 | some w,some o,some x,some row=>formB w o x row
 | _,_,_,_=>false
theorem in01 (w:Int):(decide (0≤w)&&decide (w≤1))=(w==0||w==1):=by
 rw[Bool.eq_iff_iff]
 simp
 omega
theorem player01 (w:Int):i_isPlayer w=some (w==0||w==1):=by
 unfold i_isPlayer
 cases w==0 <;> rfl
section
variable {g:Parity}{n:Nat}(hp:parityOk g=true) (hn:n=g.Prio.length)
include hp hn
theorem form_same (a:Answer):∃b,s_l6Form g a=some b∧i_isAnswer g a=some b∧(b=true↔a.Won.length=n∧a.Plan.length=n∧∀i,i<n→formC g a i=true):=by
 have h:=GOk.of hp
 rw[← hn]at h
 have hn256:=h.n256
 unfold s_l6Form i_isAnswer
 rw[s_ParityOk_eq,hp,← hn,Option.bind_some]
 simp only[Bool.not_true,cond_false,Option.bind_some]
 by_cases h1:a.Won.length=n
 · by_cases h2:a.Plan.length=n
   · rw[show((a.Won.length:Int) !=(n:Int))=false from by rw[h1];simp,show((a.Plan.length:Int) !=(n:Int))=false from by rw[h2];simp,h1]
     simp only[cond_false,Option.bind_some]
     have hget:∀i,i<n→∃w o x row,a.Won[i]? =some w∧g.Arena.Owner[i]? =some o∧a.Plan[i]? =some x∧g.Arena.Next[i]? =some row:=fun i hi=>
      ⟨_,_,_,_,List.getElem?_eq_getElem (by omega),List.getElem?_eq_getElem (by have:=h.lo;omega),List.getElem?_eq_getElem (by omega),List.getElem?_eq_getElem (by have:=h.ln;omega)⟩
     have hneg:∀{i:Nat} {row:List Int},g.Arena.Next[i]? =some row→(-1:Int)∉row:=fun {i row} hr hm=>by
      have:=(h.row (i:Int) row (by rw[idx_nat];exact hr)).2.2 _ hm
      omega
     refine⟨(List.range n).all (formC g a),?_,?_,?_⟩
     · rw[cnt_allI (f:=s_l6Form_b0 g a) (r:=false) (formC g a) n (fun i hi=>by
        obtain⟨w,o,x,row,e1,e2,e3,e4⟩:=hget i hi
        have hno:=hneg e4
        have hfc:formC g a i=formB w o x row:=by unfold formC;rw[e1,e2,e3,e4]
        rw[hfc]
        unfold s_l6Form_b0
        rw[idx_nat,idx_nat,idx_nat,idx_nat,e1,e2,e3,e4]
        simp only[Option.bind_some,s_l1In_eq,in01,s_l1Has_eq]
        rcases Bool.eq_false_or_eq_true (w==0||w==1) with hw | hw
        · rw[hw]
          by_cases ho:o=w
          · have hB:formB w o x row=decide (x∈row):=by unfold formB;rw[hw,if_pos ho];rfl
            rw[hB]
            subst ho
            rw[show(o==o)=true from by simp]
            by_cases hx:x= -1
            · subst hx
              rw[decide_eq_false hno];rfl
            · rw[show(x != -1)=true from by simpa using hx]
              cases decide (x∈row) <;> rfl
          · have hB:formB w o x row=(x== -1):=by unfold formB;rw[hw,if_neg ho];rfl
            rw[hB,show(w==o)=false from by simpa using fun e=>ho e.symm]
            unfold bne
            cases x== -1 <;> rfl
        · have hB:formB w o x row=false:=by unfold formB;rw[hw];rfl
          rw[hw,hB];rfl),Option.bind_some]
       cases(List.range n).all (formC g a) <;> rfl
     · rw[cnt_allI (f:=i_isAnswer_b0 g a) (r:=false) (formC g a) n (fun i hi=>by
        obtain⟨w,o,x,row,e1,e2,e3,e4⟩:=hget i hi
        have hfc:formC g a i=formB w o x row:=by unfold formC;rw[e1,e2,e3,e4]
        rw[hfc]
        unfold i_isAnswer_b0
        rw[idx_nat,idx_nat,idx_nat,idx_nat,e1,e2,e3,e4]
        simp only[Option.bind_some,player01,slices_Contains_I_int64_eq,any_has]
        rcases Bool.eq_false_or_eq_true (w==0||w==1) with hw | hw
        · rw[hw]
          by_cases ho:o=w
          · have hB:formB w o x row=decide (x∈row):=by unfold formB;rw[hw,if_pos ho];rfl
            rw[hB]
            subst ho
            rw[show(o==o)=true from by simp]
            cases decide (x∈row) <;> rfl
          · have hB:formB w o x row=(x== -1):=by unfold formB;rw[hw,if_neg ho];rfl
            rw[hB,show(o==w)=false from by simpa using ho]
            unfold bne
            cases x== -1 <;> rfl
        · have hB:formB w o x row=false:=by unfold formB;rw[hw];rfl
          rw[hw,hB];rfl),Option.bind_some]
       cases(List.range n).all (formC g a) <;> rfl
     · rw[all_range]
       exact⟨fun ha=>⟨by first | trivial | exact h1,h2,ha⟩,fun ha=>ha.2.2⟩
   · have e:((a.Plan.length:Int) !=(n:Int))=true:=by
      have:(a.Plan.length:Int)≠n:=fun e=>h2 (by omega)
      simpa using this
     rw[show((a.Won.length:Int) !=(n:Int))=false from by rw[h1];simp,e]
     exact⟨false,rfl,rfl,fun h=>absurd h (by decide),fun h'=>absurd h'.2.1 h2⟩
 · have e:((a.Won.length:Int) !=(n:Int))=true:=by
    have:(a.Won.length:Int)≠n:=fun e=>h1 (by omega)
    simpa using this
   rw[e]
   exact⟨false,rfl,rfl,fun h=>absurd h (by decide),fun h'=>absurd h'.1 h1⟩
theorem form_parts {a:Answer}(h1:a.Won.length=n) (h2:a.Plan.length=n) (h3:∀i,i<n→formC g a i=true):∃W,a=⟨wonL n W,a.Plan⟩∧Form g n W a.Plan:=by
 have h:=GOk.of hp
 rw[← hn]at h
 obtain⟨A,k⟩:=a
 dsimp only at h1 h2
 have hget:∀v,Xn n v→∃w row,idx A v=some w∧idx g.Arena.Next v=some row∧(w=0∨w=1)∧(b2i ((gI g).own v)=w→pkL k v∈row)∧(¬b2i ((gI g).own v)=w→pkL k v= -1):=fun v hv=>by
  obtain⟨w,hw⟩:=idx_some (xs:=A) (i:=v) hv.1 (by have:=hv.2;omega)
  obtain⟨row,hr⟩:=idx_some (xs:=g.Arena.Next) (i:=v) hv.1 (by have:=h.ln;have:=hv.2;omega)
  have ho:=own_idx h hv
  have hk:=pkL_get h2 hv.1 hv.2
  refine⟨w,row,hw,hr,?_⟩
  obtain⟨i,hi⟩:=ex_nat hv.1
  subst hi
  have:=h3 i (by have:=hv.2;omega)
  unfold formC at this
  rw[idx_nat]at hw hr ho hk
  dsimp only at this
  rw[hw,ho,hk,hr]at this
  dsimp only at this
  unfold formB at this
  rw[Bool.and_eq_true,Bool.or_eq_true]at this
  obtain⟨c1,c2⟩:=this
  refine⟨by simpa using c1,fun e=>?_,fun e=>?_⟩
  · rw[if_pos e]at c2
    exact of_decide_eq_true c2
  · rw[if_neg e]at c2
    simpa using c2
 have hwB:∀v,Xn n v→idx A v=some (b2i (wB (fun v=>idx A v=some 0) v)):=fun v hv=>by
  obtain⟨w,row,e1,e2,e3,e4,e5⟩:=hget v hv
  rw[e1]
  rcases e3 with rfl | rfl
  · rw[show wB (fun v=>idx A v=some 0) v=false from wB_false.2 e1];rfl
  · have:wB (fun v=>idx A v=some 0) v=true:=by
     cases hc:wB (fun v=>idx A v=some 0) v with
     | true=>rfl
     | false=>
      have:=wB_false.1 hc
      rw[e1]at this
      cases this
    rw[this];rfl
 refine⟨fun v=>idx A v=some 0,?_,⟨h2,fun v hv ho=>?_,fun v hv ho=>?_⟩⟩
 · congr 1
   refine wonL_of h1 fun v hv=>?_
   have:=hwB (v:Int) ⟨by omega,by omega⟩
   rw[idx_nat]at this
   exact this
 · obtain⟨w,row,e1,e2,e3,e4,e5⟩:=hget v hv
   have hb:=hwB v hv
   rw[e1]at hb
   show pkL k v∈rowI g.Arena v
   rw[rowI_eq e2]
   exact e4 (by rw[ho];exact(Option.some.inj hb).symm)
 · obtain⟨w,row,e1,e2,e3,e4,e5⟩:=hget v hv
   have hb:=hwB v hv
   rw[e1]at hb
   refine e5 fun e=>ho ?_
   rw[Option.some.inj hb]at e
   revert e
   cases(gI g).own v <;> cases wB (fun v=>idx A v=some 0) v <;> decide
theorem form_of {W:Int→Prop}{k:List Int}(hF:Form g n W k) (i:Nat) (hi:i<n):formC g ⟨wonL n W,k⟩ i=true:=by
 have h:=GOk.of hp
 rw[← hn]at h
 have hv:Xn n (i:Int):=⟨by omega,by omega⟩
 obtain⟨row,hr⟩:=idx_some (xs:=g.Arena.Next) (i:=(i:Int)) hv.1 (by have:=h.ln;omega)
 have hw:=wonL_idx (W:=W) hv
 have ho:=own_idx h hv
 have hk:=pkL_get hF.len hv.1 hv.2
 have hr':=hr
 rw[idx_nat]at hw hr ho hk
 unfold formC
 dsimp only
 rw[hw,ho,hk,hr]
 dsimp only
 unfold formB
 have h01:(b2i (wB W (i:Int))==0||b2i (wB W (i:Int))==1)=true:=by cases wB W (i:Int) <;> rfl
 rw[h01,Bool.true_and]
 by_cases e:(gI g).own (i:Int)=wB W (i:Int)
 · rw[if_pos (by rw[e])]
   have:=hF.mine _ hv e
   have this:pkL k (i:Int)∈rowI g.Arena (i:Int):=this
   rw[rowI_eq hr']at this
   exact decide_eq_true this
 · rw[if_neg (fun e'=>e (by revert e';cases(gI g).own (i:Int) <;> cases wB W (i:Int) <;> decide)),hF.free _ hv e]
   rfl
theorem ans_iff {W:Int→Prop}{k:List Int}(hk:k.length=n):(Form g n W k∧(ClosedP g n W k false∧CleanP g n W k false)∧ClosedP g n W k true∧CleanP g n W k true)↔(∀v,Xn n v→pkL k v= -1∨0≤pkL k v)∧Par.Ans (gI g) (Xn n) (wB W) (pkL k):=by
 have h:=GOk.of hp
 rw[← hn]at h
 constructor
 · rintro⟨hF,⟨c0,l0⟩,c1,l1⟩
   have hc:∀q,ClosedP g n W k q:=fun q=>by cases q <;> assumption
   have hl:∀q,CleanP g n W k q:=fun q=>by cases q <;> assumption
   refine⟨fun v hv=>?_,⟨fun v hv ho=>?_,fun v hv ho=>?_,fun v u hv ho he hu=>?_,fun v hv ho=>hl (wB W v) v ⟨hv,rfl⟩ ho⟩⟩
   · by_cases ho:(gI g).own v=wB W v
     · exact .inr (E_rng h (hF.mine v hv ho)).2.1
     · exact .inl (hF.free v hv ho)
   · have hE:=hF.mine v hv ho
     exact⟨(E_rng h hE).2.1,hE,(E_rng h hE).2,(hc (wB W v) v ⟨hv,rfl⟩).1 ho⟩
   · rw[hF.free v hv ho];decide
   · exact(hc (wB W v) v ⟨hv,rfl⟩).2 ho u he
 · rintro⟨hx,hA⟩
   have hc:∀q,ClosedP g n W k q:=fun q v hv=>by
    obtain⟨hv,rfl⟩:=hv
    exact⟨fun ho=>(hA.mine v hv ho).2.2.2,fun ho u he=>hA.yours v u hv ho he (E_rng h he).2⟩
   have hl:∀q,CleanP g n W k q:=fun q v hv ho=>by
    obtain⟨hv,rfl⟩:=hv
    exact hA.noloop v hv ho
   refine⟨⟨hk,fun v hv ho=>(hA.mine v hv ho).2.1,fun v hv ho=>?_⟩,⟨hc _,hl _⟩,hc _,hl _⟩
   have:=hA.free v hv ho
   rcases hx v hv with e | e
   · exact e
   · omega
end
def RightA (g:Parity) (a:Answer):Prop:=parityOk g=true∧∃W,a=⟨wonL g.Prio.length W,a.Plan⟩∧a.Plan.length=g.Prio.length∧(∀v,Xn g.Prio.length v→pkL a.Plan v= -1∨0≤pkL a.Plan v)∧Par.Ans (gI g) (Xn g.Prio.length) (wB W) (pkL a.Plan)
theorem AnswerOk_same (g:Parity) (a:Answer):∃b,s_AnswerOk g a=some b∧i_AnswerOk g a=some b∧(b=true↔RightA g a):=by
 cases hp:parityOk g with
 | false=>
  refine⟨false,?_,?_,fun h=>absurd h (by decide),fun h=>absurd (h.1.symm.trans hp) (by decide)⟩
  · unfold s_AnswerOk s_l6Form
    rw[s_ParityOk_eq,hp];rfl
  · unfold i_AnswerOk
    rw[i_ParityOk_eq,hp];rfl
 | true=>
  obtain⟨b,b1,b2,b3⟩:=form_same hp rfl a
  have h:=GOk.of hp
  have hn256:=h.n256
  cases b with
  | false=>
   refine⟨false,?_,?_,fun h=>absurd h (by decide),fun h'=>?_⟩
   · unfold s_AnswerOk;rw[b1];rfl
   · unfold i_AnswerOk;rw[i_ParityOk_eq,hp,b2];rfl
   · exfalso
     obtain⟨_,W,e1,e2,e3,e4⟩:=h'
     have hF:=((ans_iff hp rfl e2).2 ⟨e3,e4⟩).1
     have:false=true:=b3.2 ⟨by rw[e1];exact wonL_len _ _,e2,fun i hi=>by rw[e1];exact form_of hp rfl hF i hi⟩
     cases this
  | true=>
   obtain⟨c1,c2,c3⟩:=b3.1 rfl
   obtain⟨W,e1,hF⟩:=form_parts hp rfl c1 c2 c3
   generalize hk:a.Plan=k at e1 hF c2
   subst e1
   obtain⟨L0,p1,p2,p3,p4⟩:=parts h (A:=wonL g.Prio.length W) c2 false
   obtain⟨L1,q1,q2,q3,q4⟩:=parts h (A:=wonL g.Prio.length W) c2 true
   obtain⟨x0,x1,x2,x3⟩:=wins_same hp rfl hF p3 p4
   obtain⟨y0,y1,y2,y3⟩:=wins_same hp rfl hF q3 q4
   have r0:s_RegionOf ⟨wonL g.Prio.length W,k⟩ 0=_:=s_regL hn256 k false
   have r1:s_RegionOf ⟨wonL g.Prio.length W,k⟩ 1=_:=s_regL hn256 k true
   have t0:i_RegionOf ⟨wonL g.Prio.length W,k⟩ 0=_:=i_regL hn256 k false
   have t1:i_RegionOf ⟨wonL g.Prio.length W,k⟩ 1=_:=i_regL hn256 k true
   have p1:s_l6Part g ⟨wonL g.Prio.length W,k⟩ 0=some L0:=p1
   have q1:s_l6Part g ⟨wonL g.Prio.length W,k⟩ 1=some L1:=q1
   have p2:i_partOf g ⟨wonL g.Prio.length W,k⟩ 0=some L0:=p2
   have q2:i_partOf g ⟨wonL g.Prio.length W,k⟩ 1=some L1:=q2
   have x1:s_WinsBy g 0 (regL W false g.Prio.length) L0=some x0:=x1
   have y1:s_WinsBy g 1 (regL W true g.Prio.length) L1=some y0:=y1
   have x2:i_winsBy g 0 (regL W false g.Prio.length) L0=some x0:=x2
   have y2:i_winsBy g 1 (regL W true g.Prio.length) L1=some y0:=y2
   refine⟨x0&&y0,?_,?_,?_⟩
   · unfold s_AnswerOk
     rw[b1,Option.bind_some,Bool.not_true,cond_false,r0,Option.bind_some,p1,Option.bind_some,x1,Option.bind_some,r1,Option.bind_some,q1,Option.bind_some,y1]
     cases x0 <;> cases y0 <;> rfl
   · unfold i_AnswerOk
     rw[i_ParityOk_eq,hp,b2]
     simp only[Bool.not_true,cond_false,Option.bind_some]
     have s0:i_AnswerOk_b0 g ⟨wonL g.Prio.length W,k⟩ 0=some (if x0 then .inr (.inr 1) else .inl false):=by
      unfold i_AnswerOk_b0
      rw[show decide ((0:Int)≤1)=true from rfl,cond_true,t0,Option.bind_some,p2,Option.bind_some,x2]
      cases x0 <;> rfl
     have s1:i_AnswerOk_b0 g ⟨wonL g.Prio.length W,k⟩ 1=some (if y0 then .inr (.inr 2) else .inl false):=by
      unfold i_AnswerOk_b0
      rw[show decide ((1:Int)≤1)=true from rfl,cond_true,t1,Option.bind_some,q2,Option.bind_some,y2]
      cases y0 <;> rfl
     have s2:i_AnswerOk_b0 g ⟨wonL g.Prio.length W,k⟩ 2=some (.inr (.inl 2)):=rfl
     rw[whileM_pos (by omega),s0]
     cases x0 with
     | false=>rfl
     | true=>
      rw[if_pos rfl,Option.bind_some,lpK_nxt,whileM_pos (by omega),s1]
      cases y0 with
      | false=>rfl
      | true=>
       rw[if_pos rfl,Option.bind_some,lpK_nxt,whileM_pos (by omega),s2]
       rfl
   · rw[Bool.and_eq_true,x3,y3]
     have hi:=ans_iff hp rfl (W:=W) (k:=k) c2
     constructor
     · rintro⟨a1,a2⟩
       exact⟨hp,W,rfl,c2,hi.1 ⟨hF,a1,a2⟩⟩
     · rintro⟨_,W',e1,e2,e3,e4⟩
       have hi':=ans_iff hp rfl (W:=W') (k:=k) c2
       obtain⟨f1,f2,f3⟩:=hi'.2 ⟨e3,e4⟩
       have hw:∀v,Xn g.Prio.length v→wB W' v=wB W v:=fun v hv=>by
        have h1:=wonL_idx (W:=W) hv
        have h2:=wonL_idx (W:=W') hv
        have e1:wonL g.Prio.length W=wonL g.Prio.length W':=congrArg Answer.Won e1
        rw[e1,h2]at h1
        have:=Option.some.inj h1
        revert this
        cases wB W' v <;> cases wB W v <;> decide
       have key:Par.Ans (gI g) (Xn g.Prio.length) (wB W) (pkL k):=by
        refine⟨fun v hv ho=>?_,fun v hv ho=>?_,fun v u hv ho he hu=>?_,fun v hv ho hl=>?_⟩
        · rw[← hw v hv]at ho ⊢
          obtain⟨z1,z2,z3,z4⟩:=e4.mine v hv ho
          exact⟨z1,z2,z3,by rw[← hw _ z3];exact z4⟩
        · rw[← hw v hv]at ho
          exact e4.free v hv ho
        · rw[← hw v hv]at ho ⊢
          rw[← hw u hu]
          exact e4.yours v u hv ho he hu
        · rw[← hw v hv]at ho
          refine e4.noloop v hv ho (hl.mono (fun x hx=>?_) fun _ _ _ _ he=>he)
          obtain⟨⟨z1,z2⟩,z3⟩:=hx
          exact⟨⟨z1,by rw[hw x z1,hw v hv];exact z2⟩,z3⟩
       exact(hi.2 ⟨e3,key⟩).2
end Go.Proofs.YtmiilifclnanlaaGreat
set_option linter.unusedVariables false
set_option linter.unusedSimpArgs false
namespace Go.Proofs.YtmiilifclnanlaaGreat
open Go Go.Wk Go.Proofs
def bAt (B:List Bool) (v:Int):Bool:=B.getD v.toNat false
theorem bAt_get {B:List Bool}{v:Int}(v0:0≤v) (v1:v<B.length):idx B v=some (bAt B v):=by
 obtain⟨x,h,_⟩:=get_el (xs:=B) v0 v1
 unfold bAt
 rw[h]
 rw[idx_int v0]at h
 rw[List.getD_eq_getElem?_getD,h,Option.getD_some]
theorem bAt_set {B:List Bool}{i:Nat}(hi:i<B.length) (v:Int) (v0:0≤v):bAt (B.set i true) v=(bAt B v||decide (v=(i:Int))):=by
 unfold bAt
 rw[List.getD_eq_getElem?_getD,List.getD_eq_getElem?_getD,List.getElem?_set]
 by_cases h:i=v.toNat
 · have:v=(i:Int):=by omega
   simp[this,hi]
 · have:¬v=(i:Int):=by omega
   simp[this,h]
def falses:List Bool→Nat
 | []=>0
 | b::r=>(if b then 0 else 1)+falses r
theorem falses_le:∀B:List Bool,falses B≤B.length
 | []=>Nat.le_refl _
 | b::r=>by have:=falses_le r;simp only[falses,List.length_cons];split <;> omega
theorem falses_set:∀{B:List Bool}{i:Nat},B[i]? =some false→falses (B.set i true)+1=falses B
 | [],_,h=>by simp at h
 | b::r,0,h=>by
  simp only[List.getElem?_cons_zero,Option.some.injEq]at h
  subst h
  simp[falses];omega
 | b::r,i+1,h=>by
  simp only[List.getElem?_cons_succ]at h
  have:=falses_set h
  simp only[List.set_cons_succ,falses]
  omega
def Closed (N:List (List Int)) (B:List Bool):Prop:=∀(v:Nat) row u,N[v]? =some row→u∈row→bAt B u=true→bAt B v=true
def Sub (A B:List Bool):Prop:=∀v:Nat,bAt A v=true→bAt B v=true
structure LeastB (N:List (List Int)) (goal B:List Bool):Prop where
 len:B.length=goal.length
 sub:Sub goal B
 closed:Closed N B
 least:∀C,C.length=goal.length→Sub goal C→Closed N C→Sub B C
theorem LeastB.uniq {N:List (List Int)}{goal A B:List Bool}(hA:LeastB N goal A) (hB:LeastB N goal B):A=B:=by
 have h1:=hA.least B hB.len hB.sub hB.closed
 have h2:=hB.least A hA.len hA.sub hA.closed
 apply List.ext_getElem?
 intro i
 by_cases hi:i<goal.length
 · have ha:A[i]? =some (bAt A i):=by
    have:=bAt_get (B:=A) (v:=i) (by omega) (by rw[hA.len];omega)
    rwa [idx_nat]at this
   have hb:B[i]? =some (bAt B i):=by
    have:=bAt_get (B:=B) (v:=i) (by omega) (by rw[hB.len];omega)
    rwa [idx_nat]at this
   rw[ha,hb]
   have h3:=h1 i
   have h4:=h2 i
   cases ea:bAt A i with
   | true=>rw[h3 ea]
   | false=>
    cases eb:bAt B i with
    | true=>rw[h4 eb]at ea;cases ea
    | false=>rfl
 · rw[List.getElem?_eq_none (by rw[hA.len];omega),List.getElem?_eq_none (by rw[hB.len];omega)]
end Go.Proofs.YtmiilifclnanlaaGreat
set_option linter.unusedVariables false
set_option linter.unusedSimpArgs false
namespace Go.Proofs.YtmiilifclnanlaaGreat
open Go Go.Wk Go.Proofs
structure Rows (n:Nat) (N:List (List Int)):Prop where
 len:N.length=n
 rng:∀(v:Nat) row,N[v]? =some row→row.length≤16∧∀u∈row,0≤u∧u<n
theorem Rows.of {g:Parity}(h:parityOk g=true):Rows g.Arena.Owner.length g.Arena.Next:=by
 obtain⟨_,_,h3,_,h5⟩:=parityOk_spec h
 refine⟨h3,fun v row hr=>?_⟩
 obtain⟨k1,k2,k3⟩:=h5 v row hr
 refine⟨k2,fun u hu=>?_⟩
 obtain⟨i,hi⟩:=List.mem_iff_getElem?.1 hu
 exact(setOk_spec k3).1 i u hi
def anyOut (out:List Bool) (row:List Int):Bool:=row.any (bAt out)
def visit (v:Nat) (row:List Int) (s:Bool×List Bool):Bool×List Bool:=if bAt s.2 v=false∧anyOut s.2 row=true then(true,s.2.set v true) else s
section
variable {a:Arena}{n:Nat}(hN:Rows n a.Next) (hn:n≤256)
include hN hn
omit hn in
theorem s_visit {v:Nat}{row:List Int}(hr:a.Next[v]? =some row){s:Bool×List Bool}(hl:s.2.length=n):s_l16Before_b2 a v s=some (.inr (.inr (visit v row s))):=by
 have hv:v<n:=by have:=(List.getElem?_eq_some_iff.1 hr).1;rw[hN.len]at this;exact this
 obtain⟨r1,r2⟩:=hN.rng v row hr
 obtain⟨m,out⟩:=s
 dsimp only at hl
 obtain⟨o,h1,h2⟩:=while_out (f:=s_l16Before_b4 a v) (fun j (s:Bool×Int×List Bool)=>(s=(m,(j:Int),out)∧j≤row.length∧∀(i:Nat) x,i<j→row[i]? =some x→bAt out x=false)∨(∃z:Int,s=(true,z,out.set v true)∧0≤z∧z≤17∧bAt out v=false∧anyOut out row=true∧j≤row.length)) (fun _=>False) (fun s=>(s.1,s.2.2)=visit v row (m,out)) (row.length+1) (fun j s hI=>by
  unfold s_l16Before_b4
  rw[idx_nat,hr]
  simp only[Option.bind_some]
  rcases hI with ⟨rfl,hj,hall⟩ | ⟨z,rfl,z0,z1,hov,hany,hj⟩
  · dsimp only
    by_cases hlt:(j:Int)<(row.length:Int)
    · have e1:row[j]? =some (row[j]'(by omega)):=List.getElem?_eq_getElem (by omega)
      generalize row[j]'(by omega)=x at e1
      obtain⟨x0,x1⟩:=r2 x (List.mem_of_getElem? e1)
      have ev:=bAt_get (B:=out) (v:=(v:Int)) (by omega) (by omega)
      rw[idx_nat]at ev
      simp only[hlt,decide_true,cond_true,idx_nat,ev,Option.bind_some,e1,bAt_get (B:=out) x0 (by omega)]
      cases hov:bAt out v with
      | true=>
       simp only[Bool.not_true,cond_false]
       refine⟨_,rfl,?_⟩
       simp[visit,hov]
      | false=>
       simp only[Bool.not_false,cond_true]
       cases hox:bAt out x with
       | true=>
        simp only[cond_true,setI_nat (show v<out.length by omega),Option.bind_some]
        refine⟨_,rfl,by omega,.inr ⟨_,rfl,?_,?_,by first | exact hov | trivial,?_,by omega⟩⟩
        · rw[wr' (by omega) (by omega)];omega
        · rw[wr' (by omega) (by omega)];omega
        · unfold anyOut;rw[List.any_eq_true];exact⟨x,List.mem_of_getElem? e1,hox⟩
       | false=>
        simp only[cond_false,Option.bind_some]
        refine⟨_,rfl,by omega,.inl ⟨?_,by omega,fun i y hi hy=>?_⟩⟩
        · rw[wr' (by omega) (by omega)];rfl
        · by_cases hij:i=j
          · subst hij;rw[e1]at hy;cases hy;exact hox
          · exact hall i y (by omega) hy
    · simp only[hlt,decide_false,cond_false,Option.bind_some]
      refine⟨_,rfl,?_⟩
      have hno:anyOut out row=false:=by
       unfold anyOut
       rw[List.any_eq_false]
       intro x hx
       obtain⟨i,hi⟩:=List.mem_iff_getElem?.1 hx
       have:=hall i x (by have:=(List.getElem?_eq_some_iff.1 hi).1;omega) hi
       simp[this]
      simp[visit,hno]
  · dsimp only
    have ev:(out.set v true)[v]? =some true:=by rw[List.getElem?_set_self (by omega)]
    have hvis:visit v row (m,out)=(true,out.set v true):=by simp[visit,hov,hany]
    by_cases hlt:z<(row.length:Int)
    · simp only[hlt,decide_true,cond_true,idx_nat,ev,Option.bind_some,Bool.not_true,cond_false]
      exact⟨_,rfl,hvis.symm⟩
    · simp only[hlt,decide_false,cond_false,Option.bind_some]
      exact⟨_,rfl,hvis.symm⟩) (2 ^ 64) 0 (m,0,out) (by omega) (.inl ⟨rfl,by omega,fun i x hi=>absurd hi (Nat.not_lt_zero i)⟩) (by omega)
 match o,h2 with
 | .inr t,h2=>
  unfold s_l16Before_b2
  rw[h1,Option.bind_some,aft_inr,← h2]
structure Way (N:List (List Int)) (goal out:List Bool):Prop where
 len:out.length=goal.length
 sub:Sub goal out
 least:∀C,C.length=goal.length→Sub goal C→Closed N C→Sub out C
omit hn in
theorem Way.set {goal out:List Bool}(hg:goal.length=n) (h:Way a.Next goal out){v:Nat}{row:List Int}(hr:a.Next[v]? =some row) (hany:anyOut out row=true):Way a.Next goal (out.set v true):=by
 have hv:v<n:=by have:=(List.getElem?_eq_some_iff.1 hr).1;rw[hN.len]at this;exact this
 refine⟨by rw[List.length_set];exact h.len,fun u hu=>?_,fun C hC hs hc u hu=>?_⟩
 · rw[bAt_set (by rw[h.len];omega) _ (by omega),h.sub u hu];rfl
 · rw[bAt_set (by rw[h.len];omega) _ (by omega),Bool.or_eq_true]at hu
   rcases hu with hu | hu
   · exact h.least C hC hs hc u hu
   · have:u=v:=by have:=of_decide_eq_true hu;omega
     subst this
     unfold anyOut at hany
     rw[List.any_eq_true]at hany
     obtain⟨x,hx,hox⟩:=hany
     obtain⟨x0,_⟩:=(hN.rng u row hr).2 x hx
     have:=h.least C hC hs hc x.toNat (by rw[show((x.toNat:Nat):Int)=x from by omega];exact hox)
     rw[show((x.toNat:Nat):Int)=x from by omega]at this
     exact hc u row x hr hx this
omit hn in
theorem s_pass {goal out:List Bool}(hg:goal.length=n) (h:Way a.Next goal out):∃m out',cntM (s_l16Before_b2 a) a.Next.length 0 (false,out)=some (.inr (m,out'))∧Way a.Next goal out'∧((m=false∧out'=out∧Closed a.Next out)∨(m=true∧falses out'<falses out)):=by
 obtain⟨s,h1,h2,h3⟩:=cnt_inv (f:=s_l16Before_b2 a) (fun j (s:Bool×List Bool)=>Way a.Next goal s.2∧((s.1=false∧s.2=out∧∀(v:Nat) row,v<j→a.Next[v]? =some row→bAt out v=false→anyOut out row=false)∨(s.1=true∧falses s.2<falses out))) a.Next.length (s:=(false,out)) ⟨h,.inl ⟨rfl,rfl,fun v row hv=>absurd hv (Nat.not_lt_zero v)⟩⟩ (fun j s hj ⟨hW,hI⟩=>by
  have hr:a.Next[j]? =some a.Next[j]:=List.getElem?_eq_getElem hj
  generalize a.Next[j]=row at hr
  have hl:s.2.length=n:=by rw[hW.len,hg]
  refine⟨_,s_visit hN hr hl,?_⟩
  unfold visit
  by_cases hc:bAt s.2 j=false∧anyOut s.2 row=true
  · rw[if_pos hc]
    have hf:s.2[j]? =some false:=by
     have:=bAt_get (B:=s.2) (v:=(j:Int)) (by omega) (by rw[hN.len]at hj;omega)
     rw[idx_nat,hc.1]at this
     exact this
    have hfs:=falses_set hf
    refine⟨hW.set hN hg hr hc.2,.inr ⟨rfl,?_⟩⟩
    rcases hI with ⟨_,e,_⟩ | ⟨_,e⟩
    · rw[e]at hfs;dsimp only;rw[e];omega
    · dsimp only;omega
  · rw[if_neg hc]
    refine⟨hW,?_⟩
    rcases hI with ⟨e1,e2,e3⟩ | hI
    · refine .inl ⟨e1,e2,fun v r hv hvr hov=>?_⟩
      by_cases hvj:v=j
      · subst hvj
        rw[hr]at hvr
        cases hvr
        rw[e2]at hc
        cases ha:anyOut out row with
        | false=>rfl
        | true=>exact absurd ⟨hov,ha⟩ hc
      · exact e3 v r (by omega) hvr hov
    · exact .inr hI)
 refine⟨s.1,s.2,h1,h2,?_⟩
 rcases h3 with ⟨e1,e2,e3⟩ | h3
 · refine .inl ⟨e1,e2,fun v row u hvr hu hou=>?_⟩
   cases hov:bAt out v with
   | true=>rfl
   | false=>
    have h4:=e3 v row (List.getElem?_eq_some_iff.1 hvr).1 hvr hov
    unfold anyOut at h4
    rw[List.any_eq_false]at h4
    exact absurd hou (h4 u hu)
 · exact .inr h3
theorem s_before {goal:List Bool}(hg:goal.length=n):∃B,s_l16Before a goal=some B∧LeastB a.Next goal B:=by
 have hW0:Way a.Next goal goal:=⟨rfl,fun _ h=>h,fun C _ hs _=>hs⟩
 unfold s_l16Before
 rw[appL (by rw[List.length_nil];omega) rfl,Option.bind_some,List.nil_append]
 obtain⟨o,h1,h2⟩:=while_out (f:=s_l16Before_b0 a) (fun j (s:Bool×List Bool)=>Way a.Next goal s.2∧((s.1=true∧j+falses s.2≤n)∨(s.1=false∧j≤n+1∧Closed a.Next s.2))) (fun _=>False) (fun s=>LeastB a.Next goal s.2) (n+2) (fun j s ⟨hW,hI⟩=>by
  unfold s_l16Before_b0
  rcases hI with ⟨e1,e2⟩ | ⟨e1,e2,e3⟩
  · obtain⟨m,out',k1,k2,k3⟩:=s_pass hN hg hW
    rw[e1,cond_true,k1,Option.bind_some,aft_inr]
    refine⟨_,rfl,by omega,k2,?_⟩
    rcases k3 with ⟨rfl,rfl,k4⟩ | ⟨rfl,k4⟩
    · exact .inr ⟨rfl,by omega,k4⟩
    · exact .inl ⟨rfl,by dsimp only;omega⟩
  · rw[e1,cond_false]
    exact⟨_,rfl,hW.len,hW.sub,e3,hW.least⟩) (2 ^ 64) 0 (true,goal) (by omega) ⟨hW0,.inl ⟨rfl,by have:=falses_le goal;dsimp only;omega⟩⟩ (by omega)
 match o,h2 with
 | .inr s,h2=>rw[h1];exact⟨s.2,rfl,h2⟩
structure Preds (n:Nat) (N:List (List Int)) (P:List (List Int)):Prop where
 len:P.length=n
 mem:∀(u:Nat) row,P[u]? =some row→(row.length≤100000∧∀x,x∈row↔∃(v:Nat) (r:List Int),x=(v:Int)∧N[v]? =some r∧(u:Int)∈r)
theorem i_preds (hO:a.Owner.length=n):∃P,i_predsOf a=some P∧Preds n a.Next P:=by
 unfold i_predsOf
 rw[hO,mkS_nat (by omega) rfl,Option.bind_some]
 obtain⟨s,h1,h2,h3⟩:=cnt_inv (f:=i_predsOf_b0 a) (fun j (s:List (List Int))=>s.length=n∧∀(u:Nat) row,s[u]? =some row→(row.length≤j * 16∧∀x,x∈row↔∃(v:Nat) (r:List Int),v<j∧x=(v:Int)∧a.Next[v]? =some r∧(u:Int)∈r)) a.Next.length (s:=List.replicate n ([]:List Int)) ⟨by simp,fun u row hu=>by
  rw[List.getElem?_replicate]at hu
  split at hu
  · cases hu
    exact⟨by simp,fun x=>⟨fun h=>(by cases h),fun⟨v,r,hv,_⟩=>absurd hv (Nat.not_lt_zero v)⟩⟩
  · cases hu⟩ (fun j s hj ⟨hl,hs⟩=>by
  have hr:a.Next[j]? =some a.Next[j]:=List.getElem?_eq_getElem hj
  generalize a.Next[j]=row at hr
  obtain⟨r1,r2⟩:=hN.rng j row hr
  rw[hN.len]at hj
  unfold i_predsOf_b0
  rw[idx_nat,hr,Option.bind_some]
  obtain⟨t,k1,k2,k3⟩:=cnt_inv (f:=i_predsOf_b2 (j:Int) row) (fun i (t:List (List Int))=>t.length=n∧∀(u:Nat) rw_,t[u]? =some rw_→(rw_.length≤j * 16+i∧∀x,x∈rw_↔(∃(v:Nat) (r:List Int),v<j∧x=(v:Int)∧a.Next[v]? =some r∧(u:Int)∈r)∨(x=(j:Int)∧(u:Int)∈row.take i))) row.length (s:=s) ⟨hl,fun u rw_ hu=>by
   obtain⟨m1,m2⟩:=hs u rw_ hu
   exact⟨by omega,fun x=>by rw[m2 x];simp⟩⟩ (fun i t hi ⟨tl,ts⟩=>by
   have e1:row[i]? =some row[i]:=List.getElem?_eq_getElem hi
   generalize row[i]=y at e1
   obtain⟨y0,y1⟩:=r2 y (List.mem_of_getElem? e1)
   obtain⟨u,hu⟩:=ex_nat y0
   subst hu
   have e2:t[u]? =some (t[u]'(by omega)):=List.getElem?_eq_getElem (by omega)
   generalize t[u]'(by omega)=old at e2
   obtain⟨m1,m2⟩:=ts u old e2
   have hj16:j * 16≤256 * 16:=Nat.mul_le_mul_right _ (by omega)
   unfold i_predsOf_b2
   rw[idx_nat,e1,Option.bind_some,idx_nat,e2,Option.bind_some,app1 (by omega) rfl,Option.bind_some,Option.bind_some,setI_nat (by omega),Option.bind_some]
   refine⟨_,rfl,by rw[List.length_set];exact tl,fun w rw_ hw=>?_⟩
   have htk:row.take (i+1)=row.take i++[(u:Int)]:=by rw[List.take_add_one,e1];rfl
   rw[htk]
   by_cases hwu:u=w
   · subst hwu
     rw[List.getElem?_set_self (by omega)]at hw
     cases hw
     refine⟨by rw[List.length_append];simp;omega,fun x=>?_⟩
     rw[List.mem_append,List.mem_singleton,m2 x,List.mem_append,List.mem_singleton]
     constructor
     · rintro((h | h) | h)
       · exact .inl h
       · exact .inr ⟨h.1,.inl h.2⟩
       · exact .inr ⟨h,.inr rfl⟩
     · rintro(h | ⟨h,h' | h'⟩)
       · exact .inl (.inl h)
       · exact .inl (.inr ⟨h,h'⟩)
       · exact .inr h
   · rw[List.getElem?_set_ne hwu]at hw
     obtain⟨q1,q2⟩:=ts w rw_ hw
     refine⟨by omega,fun x=>?_⟩
     rw[q2 x,List.mem_append,List.mem_singleton]
     have:¬((w:Int)=(u:Int)):=by omega
     simp[this])
  rw[k1]
  refine⟨t,rfl,k2,fun u rw_ hu=>?_⟩
  obtain⟨q1,q2⟩:=k3 u rw_ hu
  refine⟨by omega,fun x=>?_⟩
  rw[q2 x,List.take_length]
  constructor
  · rintro(⟨v,r,hv,h⟩ | ⟨h1,h2⟩)
    · exact⟨v,r,by omega,h⟩
    · exact⟨j,row,by omega,h1,hr,h2⟩
  · rintro⟨v,r,hv,hx,hvr,hu'⟩
    by_cases hvj:v=j
    · subst hvj
      rw[hr]at hvr
      cases hvr
      exact .inr ⟨hx,hu'⟩
    · exact .inl ⟨v,r,by omega,hx,hvr,hu'⟩)
 rw[h1]
 refine⟨s,rfl,h2,fun u row hu=>?_⟩
 obtain⟨q1,q2⟩:=h3 u row hu
 have hj16:a.Next.length * 16≤256 * 16:=Nat.mul_le_mul_right _ (by rw[hN.len];omega)
 refine⟨by omega,fun x=>?_⟩
 rw[q2 x]
 constructor
 · rintro⟨v,r,_,h⟩;exact⟨v,r,h⟩
 · rintro⟨v,r,hx,hvr,h⟩;exact⟨v,r,(List.getElem?_eq_some_iff.1 hvr).1,hx,hvr,h⟩
end
theorem listOf_eqI (B:List Bool) (hl:B.length≤1000000):∃L,i_listOf B=some L∧True∧L.length≤B.length∧∀x,x∈L↔∃v:Nat,x=(v:Int)∧B[v]? =some true:=by
 obtain⟨s,h1,h2,h3⟩:=cnt_inv (f:=i_listOf_b0 B) (fun j (s:List Int)=>s.length≤j∧∀x,x∈s↔∃v:Nat,v<j∧x=(v:Int)∧B[v]? =some true) B.length (s:=[]) ⟨by simp,fun x=>⟨fun h=>(by cases h),fun⟨v,hv,_⟩=>absurd hv (Nat.not_lt_zero v)⟩⟩ (fun j s hj ⟨hl',hs⟩=>by
  have hb:B[j]? =some B[j]:=List.getElem?_eq_getElem hj
  generalize B[j]=b at hb
  unfold i_listOf_b0
  rw[idx_nat,hb,Option.bind_some]
  cases b with
  | true=>
   simp only[cond_true]
   rw[app1 (by omega) rfl,Option.bind_some,Option.bind_some]
   refine⟨_,rfl,by simp;omega,fun x=>?_⟩
   rw[List.mem_append,List.mem_singleton,hs x]
   constructor
   · rintro(⟨v,hv,h⟩ | rfl)
     · exact⟨v,by omega,h⟩
     · exact⟨j,by omega,rfl,hb⟩
   · rintro⟨v,hv,hx,hv'⟩
     by_cases hvj:v=j
     · subst hvj;exact .inr hx
     · exact .inl ⟨v,by omega,hx,hv'⟩
  | false=>
   simp only[cond_false,Option.bind_some]
   refine⟨_,rfl,by omega,fun x=>?_⟩
   rw[hs x]
   constructor
   · rintro⟨v,hv,h⟩;exact⟨v,by omega,h⟩
   · rintro⟨v,hv,hx,hv'⟩
     by_cases hvj:v=j
     · subst hvj;rw[hb]at hv';cases hv'
     · exact⟨v,by omega,hx,hv'⟩)
 have e:i_listOf B=some s:=by unfold i_listOf;rw[h1];rfl
 refine⟨s,e,?_,h2,fun x=>?_⟩
 · trivial
 · rw[h3 x]
   constructor
   · rintro⟨v,_,h⟩;exact⟨v,h⟩
   · rintro⟨v,hx,hv⟩;exact⟨v,(List.getElem?_eq_some_iff.1 hv).1,hx,hv⟩
end Go.Proofs.YtmiilifclnanlaaGreat
