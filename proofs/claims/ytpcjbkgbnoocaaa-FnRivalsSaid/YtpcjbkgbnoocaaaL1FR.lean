/- The product of two automata, whole; the product of clauses. -/
import Derived.Test.YtpcjbkgbnoocaaaL0FR
import Derived.Test.YtpcjbkgbnoocaaaLawFR
set_option linter.unusedVariables false
set_option linter.unusedSimpArgs false
open Option renaming bind → br, bind_some → bt
open List renaming getElem?_eq_getElem → bB, getElem?_eq_some_iff → gs, replicate → hV, mem_of_getElem? → it, getElem?_replicate → vt, length_append → vx, mem_singleton → vy, length_cons → vA, length_take → vB, length_nil → vC, mem_append → vF, take_add_one → vG, length_map → vI
open Bool renaming and_eq_true → vv, not_true → vw, eq_iff_iff → vD
namespace Go.Proofs.Ytpcjbkgbnoocaaa
open Go Go.Wk Go.Proofs
theorem conI (l:List Int) (v:Int):bI l v=some (decide (v∈l)):=by
 rw[cX]
 congr 1
 rw[vD,List.any_eq_true,decide_eq_true_eq]
 exact⟨λ⟨y,hy,e⟩=>(show v=y by simpa using e) ▸ hy,λh=>⟨_,h,by simp⟩⟩
theorem mH {part:Key->Int}{K:List Key}{S:List Int}{j:Nat}{v:Key}(hv:K[j]? =some v) (hl:j<=1000):(bif decide (part v∈S) then br (appS 8 (plK part K S j) [(j:Int)]) λx=>some x else some (plK part K S j))=some (plK part K S (j+1)):=by
 have hp:=rO part K S j
 have e:plK part K S (j+1)=plK part K S j++(match K[j]? with | some v=>if part v∈S then[(j:Int)] else[] | none=>[]):=rfl
 rw[e,hv]
 dsimp only
 by_cases h:part v∈S
 · rw[decide_eq_true h,cond_true,app1 (by omega) rfl,if_pos h];rfl
 · rw[decide_eq_false h,cond_false,if_neg h,List.append_nil]
theorem qb {K:List Key}(hl:K.length<=300) (ps:List Pair) (hpl:ps.length<=4) (w:Bool):gG ps (K.map toL) (b01 w)=some (ps.map (plP (λv=>bif w then v.2 else v.1) K)):=by
 unfold gG
 obtain⟨s,h1,h2⟩:=bO (f:=eT ps (K.map toL) (b01 w)) (λj s=>s=(ps.take j).map (plP (λv=>bif w then v.2 else v.1) K)) ps.length (s:=[]) rfl (λj s hj hs=>by
  subst hs
  have hp:ps[j]? =some ps[j]:=bB hj
  generalize ps[j]=p at hp
  obtain⟨t,k1,k2⟩:=bO (f:=ff ps (K.map toL) (b01 w) (j:Int)) (λi s=>s=(plK (λv=>bif w then v.2 else v.1) K p.Ask i,plK (λv=>bif w then v.2 else v.1) K p.Give i)) (K.map toL).length (s:=([],[])) rfl (λi s hi hs=>by
   subst hs
   rw[vI]at hi
   have hv:K[i]? =some K[i]:=bB hi
   generalize K[i]=v at hv
   have g1:idx (K.map toL) (i:Int)=some (toL v):=by rw[bC,List.getElem?_map,hv];rfl
   have g2:idx (toL v) (b01 w)=some (bif w then v.2 else v.1):=by cases w <;> rfl
   have q1:=mH (part:=λv=>bif w then v.2 else v.1) (S:=p.Ask) hv (by omega)
   have q2:=mH (part:=λv=>bif w then v.2 else v.1) (S:=p.Give) hv (by omega)
   unfold ff
   dsimp only at q1 q2 ⊢
   rw[bC,hp,bt,g1,bt,g2,bt,oP,bt,q1,bt,bt,bt,g2,bt,oP,bt,q2,bt]
   exact⟨_,rfl,rfl⟩)
  rw[vI]at k2
  unfold eT
  rw[k1,bt,bD,k2]
  dsimp only
  rw[app1 (by rw[vI,vB];omega) rfl,bt]
  exact⟨_,rfl,by rw[vG,hp,List.map_append];rfl⟩)
 rw[h1,bt,bD,h2,List.take_length]
theorem qc {K:List Key}(hl:K.length<=300){ii:Int}{R:List (List Int)}(a b:Det) (w:Bool) (ps:List Pair) (acc:List Pair) (hpl:acc.length+ps.length<=8) (X:Det) (hX:X.Pairs=ps):cntM (dy (K,ii,R) (b01 w) X) ps.length 0 acc=some (.inr (acc++ps.map (plP (λv=>bif w then v.2 else v.1) K))):=by
 obtain⟨s,h1,h2⟩:=bO (f:=dy (K,ii,R) (b01 w) X) (λj s=>s=acc++(ps.take j).map (plP (λv=>bif w then v.2 else v.1) K)) ps.length (s:=acc) (by simp) (λj s hj hs=>by
  subst hs
  have hp:ps[j]? =some ps[j]:=bB hj
  generalize ps[j]=p at hp
  obtain⟨t,k1,k2⟩:=bO (f:=iP (K,ii,R) (b01 w) p) (λi s=>s=(plK (λv=>bif w then v.2 else v.1) K p.Ask i,plK (λv=>bif w then v.2 else v.1) K p.Give i)) K.length (s:=([],[])) rfl (λi s hi hs=>by
   subst hs
   have hv:K[i]? =some K[i]:=bB hi
   generalize K[i]=v at hv
   have g2:idx [v.1,v.2] (b01 w)=some (bif w then v.2 else v.1):=by cases w <;> rfl
   have q1:=mH (part:=λv=>bif w then v.2 else v.1) (S:=p.Ask) hv (by omega)
   have q2:=mH (part:=λv=>bif w then v.2 else v.1) (S:=p.Give) hv (by omega)
   unfold iP
   dsimp only at q1 q2 ⊢
   rw[bC,hv,bt,g2,bt,conI,bt,q1,bt,bt,conI,bt,q2,bt]
   exact⟨_,rfl,rfl⟩)
  unfold dy
  dsimp only
  rw[hX,bC,hp,bt,k1,bt,bD,k2]
  dsimp only
  rw[app1 (by rw[vx,vI,vB];omega) rfl,bt]
  exact⟨_,rfl,by rw[vG,hp,List.map_append,List.append_assoc];rfl⟩)
 rw[h1,h2,List.take_length]
section
variable {p:Sig}{a b:Det}(hs:sigOk p=true) (ha:detOk p a=true) (hb:detOk p b=true) (hsum:a.Pairs.length+b.Pairs.length<=4){k:Nat}(hk:ltd p=k)
include hs ha hb hsum hk
structure JK (a b:Det) (k:Nat) (K:List Key) (R:List (List Int)):Prop where
 prod:Prod (kyJ a b) k K K.length R
 kin:KinJ a b K
 le:K.length<=48
theorem qM:(dR a b (k:Int)=some (zeroD,false)/\jg a b=some (zeroD,false)/\48<a.Next.length * b.Next.length)\/∃K R,JK a b k K R/\dR a b (k:Int)=some (jD a b K R,true)/\jg a b=some (jD a b K R,true):=by
 obtain⟨a1,a2,a3,n1⟩:=gL ha
 obtain⟨b1,b2,b3,n2⟩:=gL hb
 have h16:k<=16:=by have:=kJ hs;unfold ltr at this;unfold ltd at hk;omega
 have hr:rng (k:Int)=some ():=by unfold rng;rw[if_pos (by omega)]
 obtain⟨o,t,w1,w2,w3⟩:=lw (f:=eE a b (k:Int)) (g:=iI a b) (λs t=>∃K i R,s=(K.map toL,((i:Nat):Int),R)/\t=(K,((i:Nat):Int),R)/\Prod (kyJ a b) k K i R/\KinJ a b K/\K.length<=48) (λs=>100-s.2.1.toNat) (λr r'=>r=(zeroD,false)/\r'=(zeroD,false)/\48<a.Next.length * b.Next.length) (λs t=>∃K i R,s=(K.map toL,((i:Nat):Int),R)/\t=(K,((i:Nat):Int),R)/\Prod (kyJ a b) k K i R/\KinJ a b K/\K.length<=48/\i=K.length) (λs t ⟨K,i,R,e1,e2,hP,hK,hl⟩=>by
  subst e1 e2
  unfold eE iI
  dsimp only
  rw[vI]
  by_cases hlt:i<K.length
  · have hv:K[i]? =some K[i]:=bB hlt
    generalize K[i]=v at hv
    obtain⟨v0,v1,v2,v3⟩:=hK v (it hv)
    obtain⟨row,hrow,hmem⟩:=dF (xs:=a.Next) v0 v1
    have hrl:row.length=k:=by have:=(n1 row hmem).1;omega
    have e1:=ur ha hb hk hl h16 hK hv (M:=K.map toL) (R:=R)
    have e2:=uX ha hb hk hl h16 hK hv (R:=R) hrow hrl
    have rk:=lc (kyJ a b v) K k
    have hK':=tX ha hb hk hK (it hv)
    have hP':=hP.step hv
    generalize rowK (kyJ a b v) K k=G at *
    have hle:=rk.le
    have hRl:=hP.rl
    rw[decide_eq_true (show(i:Int)<(K.length:Int) by omega),cond_true,cond_true,hr,bt,Int.sub_zero,Int.toNat_natCast,e1,bt,bD,bC,hv,bt,hrow,bt,hrl,e2,bt,bD]
    dsimp only
    rw[vI]
    by_cases hbig:48<G.1.length
    · rw[decide_eq_true (show(48:Int)<(G.1.length:Int) by omega),cond_true,cond_true]
      exact⟨_,_,rfl,rfl,rfl,rfl,Nat.lt_of_lt_of_le hbig (qB hP'.nod hK')⟩
    · rw[decide_eq_false (show ¬(48:Int)<(G.1.length:Int) by omega),cond_false,cond_false,app1 (by omega) rfl,bt,bt,wr' (by omega) (by omega)]
      refine⟨_,_,rfl,rfl,⟨G.1,i+1,R++[G.2],rfl,rfl,hP',hK',by omega⟩,?_⟩
      dsimp only;omega
  · rw[decide_eq_false (show ¬(i:Int)<(K.length:Int) by omega),cond_false,cond_false]
    have:=hP.il
    exact⟨_,_,rfl,rfl,K,i,R,rfl,rfl,hP,hK,hl,by omega⟩) (2 ^ 64) (2 ^ 64) ([[0,0]],0,[]) ([(0,0)],0,[]) (by dsimp only;omega) (by dsimp only;omega) ⟨[(0,0)],0,[],rfl,rfl,Prod.init _ _,λv hv=>by
     rw[vy]at hv
     subst hv
     exact⟨Int.le_refl _,by dsimp only;omega,Int.le_refl _,by dsimp only;omega⟩,by simp⟩
 have hsw:decide ((4:Int)<IntKind.i64.wrap ((a.Pairs.length:Int)+(b.Pairs.length:Int)))=false:=by
  rw[wr' (by omega) (by omega)]
  exact decide_eq_false (by omega)
 unfold dR jg
 rw[hsw,cond_false,w1,w2,bt,bt]
 match o,t,w3 with
 | .inl r,.inl r',w3=>
  left
  rw[w3.1,w3.2.1]
  exact⟨rfl,rfl,w3.2.2⟩
 | .inr s,.inr t,⟨K,i,R,e1,e2,hP,hK,hl,ei⟩=>
  right
  subst e1 e2 ei
  refine⟨K,R,⟨hP,hK,hl⟩,?_,?_⟩
  · rw[bD]
    dsimp only
    have p1:=qb (K:=K) (by omega) a.Pairs (by omega) false
    have p2:=qb (K:=K) (by omega) b.Pairs (by omega) true
    rw[show b01 false=0 from rfl]at p1
    rw[show b01 true=1 from rfl]at p2
    rw[p1,bt,p2,bt,appL (by simp;omega) rfl,bt]
    rfl
  · rw[bD]
    have q1:=qc (K:=K) (by omega) (ii:=((K.length:Nat):Int)) (R:=R) a b false a.Pairs [] (by simp;omega) a rfl
    have q2:=qc (K:=K) (by omega) (ii:=((K.length:Nat):Int)) (R:=R) a b true b.Pairs ([]++a.Pairs.map (plP (λv=>bif false then v.2 else v.1) K)) (by simp;omega) b rfl
    have c1:cJ a b (K,((K.length:Nat):Int),R) 0 []=some (.inr (.inr ([]++a.Pairs.map (plP (λv=>bif false then v.2 else v.1) K)))):=by
     unfold cJ
     rw[show idx [a,b] 0=some a from rfl,bt]
     have q1':cntM (dy (K,((K.length:Nat):Int),R) 0 a) a.Pairs.length 0 []=_:=q1
     rw[q1',bt,bD]
    have c2:cJ a b (K,((K.length:Nat):Int),R) 1 ([]++a.Pairs.map (plP (λv=>bif false then v.2 else v.1) K))=some (.inr (.inr (([]++a.Pairs.map (plP (λv=>bif false then v.2 else v.1) K))++b.Pairs.map (plP (λv=>bif true then v.2 else v.1) K)))):=by
     unfold cJ
     rw[show idx [a,b] 1=some b from rfl,bt]
     have q2':cntM (dy (K,((K.length:Nat):Int),R) 1 b) b.Pairs.length 0 _=_:=q2
     rw[q2',bt,bD]
    have c3:cntM (cJ a b (K,((K.length:Nat):Int),R)) [a,b].length 0 []=some (.inr (([]++a.Pairs.map (plP (λv=>bif false then v.2 else v.1) K))++b.Pairs.map (plP (λv=>bif true then v.2 else v.1) K))):=by
     show br (cJ a b (K,((K.length:Nat):Int),R) 0 []) _=_
     rw[c1,bt]
     show br (cJ a b (K,((K.length:Nat):Int),R) (0+1) _) _=_
     rw[show(0:Int)+1=1 from rfl,c2,bt]
     rfl
    rw[c3,bt,bD]
    rfl
end
theorem vm {p:Sig}{a b:Det}(hsum:a.Pairs.length+b.Pairs.length<=4){k:Nat}(hk:ltd p=k){K:List Key}{R:List (List Int)}(h:JK a b k K R):detOk p (jD a b K R)=true:=by
 have hl:=h.le
 have h0:=(gs.1 h.prod.zero).1
 have hR:(jD a b K R).Next.length=K.length:=h.prod.rl
 unfold detOk
 rw[hR,decide_eq_true (show(1:Int)<=(K.length:Int) by omega),decide_eq_true (show(K.length:Int)<=48 by omega)]
 have e1:pairsOk (jD a b K R).Pairs (K.length:Int)=true:=by
  unfold pairsOk
  rw[vv,decide_eq_true_eq,List.all_eq_true]
  refine⟨?_,λx hx=>?_⟩
  · show(((a.Pairs.map _++b.Pairs.map _).length:Nat):Int)<=4
    rw[vx,vI,vI];omega
  · unfold pairOk
    have:∀part:Key->Int,∀y:Pair,x=plP part K y->(cw (K.length:Int) x.Ask&&cw (K.length:Int) x.Give)=true:=λpart y e=>by
     subst e
     show(cw _ (plK part K y.Ask K.length)&&cw _ (plK part K y.Give K.length))=true
     rw[(th part K y.Ask K.length).ok (Int.le_refl _),(th part K y.Give K.length).ok (Int.le_refl _)];rfl
    rcases vF.1 (show x∈a.Pairs.map (plP (·.1) K)++b.Pairs.map (plP (·.2) K) from hx) with hx | hx
    · obtain⟨y,_,e⟩:=List.mem_map.1 hx;exact this _ y e.symm
    · obtain⟨y,_,e⟩:=List.mem_map.1 hx;exact this _ y e.symm
 have e2:((jD a b K R).Next.all (detRow p (K.length:Int)))=true:=by
  rw[List.all_eq_true]
  intro row hrow
  obtain⟨j,hj⟩:=List.getElem?_of_mem (show row∈R from hrow)
  obtain⟨r1,v,r2,r3⟩:=h.prod.row j row hj
  unfold detRow
  rw[vv,List.all_eq_true,beq_iff_eq]
  refine⟨by omega,λx hx=>ej.2 ?_⟩
  obtain⟨i,hi⟩:=List.getElem?_of_mem hx
  have hil:=(gs.1 hi).1
  obtain⟨y,y1,y2,y3⟩:=r3 i (by omega)
  rw[hi]at y1
  cases y1
  have:=(gs.1 y3).1
  omega
 rw[e1,e2];rfl
end Go.Proofs.Ytpcjbkgbnoocaaa
set_option linter.unusedVariables false
set_option linter.unusedSimpArgs false
namespace Go.Proofs.Ytpcjbkgbnoocaaa
open Go Go.Wk Go.Proofs
def oneD (n:Nat):Det:=⟨[hV n 0],[]⟩
inductive PR (n:Nat):List Clause->Det->Prop
 | nil:PR n [] (oneD n)
 | snoc {cs c D K R} (h:PR n cs D) (k:JK D (monD c n) n K R):PR n (cs++[c]) (jD D (monD c n) K R)
theorem sM (c:Clause) (n:Nat):(monD c n).Next.length<=4:=by
 show((numsN _).map _).length<=4
 rw[vI,gK]
 unfold monStates
 (repeat' split) <;> omega
theorem PR.size {n:Nat}{cs:List Clause}{D:Det}(h:PR n cs D):D.Next.length<=4 ^ cs.length:=by
 induction h with
 | nil=>exact Nat.le_refl _
 | @snoc cs c D K R hp k ih=>
  show R.length<=_
  rw[k.prod.rl,vx]
  exact Nat.le_trans (qB k.prod.nod k.kin) (by show _<=4 ^ (cs.length+1);rw[Nat.pow_succ];exact Nat.mul_le_mul ih (sM c n))
def iA (p:Sig) (cs:List Clause):Bool:=decide ((cs.length:Int)<=3)&&cs.all (dh p)
theorem ua {p:Sig}(hs:sigOk p=true){n:Nat}(hn:ltd p=n):detOk p (oneD n)=true:=by
 have h:=kJ hs
 unfold ltr at h
 unfold ltd at hn
 unfold detOk oneD
 have e:([hV n (0:Int)].all (detRow p ((1:Nat):Int)))=true:=by
  rw[List.all_eq_true]
  intro row hrow
  rw[vy]at hrow
  subst hrow
  unfold detRow ltd
  rw[List.length_replicate,vv,beq_iff_eq,List.all_eq_true]
  refine⟨hn.symm,λx hx=>?_⟩
  rw[(List.mem_replicate.1 hx).2]
  exact ej.2 ⟨Int.le_refl _,by omega⟩
 show(decide ((1:Int)<=((1:Nat):Int))&&decide (((1:Nat):Int)<=48)&&pairsOk [] ((1:Nat):Int)&&([hV n (0:Int)].all (detRow p ((1:Nat):Int))))=true
 rw[e];rfl
theorem pF (p:Sig){cs:List Clause}(hb:∀c∈cs,Clause.bd c):(dS p cs=some (zeroD,false)/\fv p cs=some (zeroD,false)/\(sigOk p=true->iA p cs=true->2<cs.length)) \/
 (sigOk p=true/\iA p cs=true/\∃n D,ltd p=((n:Nat):Int)/\n<=16/\PR n cs D/\detOk p D=true/\D.Pairs.length=cs.length/\dS p cs=some (D,true)/\fv p cs=some (D,true)):=by
 unfold dS fv
 rw[iU]
 cases hs:sigOk p with
 | false=>
  left
  have:eF p cs=some false:=by
   unfold eF
   rw[dj,hs];rfl
  rw[this]
  exact⟨rfl,rfl,λh=>by cases h⟩
 | true=>
  rw[nH hs hb,bt,bt,vw,cond_false,np hs hb,bt,bt]
  show _\/(_/\iA p cs=true/\_)
  have hc':(decide ((cs.length:Int)<=3)&&cs.all (dh p))=iA p cs:=rfl
  rw[hc']
  cases hc:iA p cs with
  | false=>exact .inl ⟨rfl,rfl,λ_ h=>by cases h⟩
  | true=>
   have hcc:=hc
   unfold iA at hcc
   rw[vv,decide_eq_true_eq,List.all_eq_true]at hcc
   obtain⟨l1,l2⟩:=kJ hs
   obtain⟨n,hn⟩:=dr (z:=ltr p) (by omega)
   have hn':ltd p=(n:Int):=hn
   have hmk:mkS 8 (n:Int) (0:Int)=some (hV n 0):=cO (by omega) rfl
   have hone:=ua hs hn'
   rw[vw,cond_false,cond_false,eH hs,iG hs,hn,bt,bt,hmk,bt,bt]
   obtain⟨o,t,w1,w2,w3⟩:=nO (f:=dw p cs) (g:=fL p cs) (λj s t=>s=t/\PR n (cs.take j) ⟨s.1,s.2⟩/\detOk p ⟨s.1,s.2⟩=true/\s.2.length=j) (λr r'=>r=(zeroD,false)/\r'=(zeroD,false)/\2<cs.length) (λ_ _=>False) cs.length (λj s t hj ⟨e,hP,hd,hl⟩=>by
    subst e
    have hcj:cs[j]? =some cs[j]:=bB hj
    generalize cs[j]=c at hcj
    have hcm:=it hcj
    obtain⟨q1,q2⟩:=tM (hcc.2 c hcm) hn
    have hsum:(⟨s.1,s.2⟩:Det).Pairs.length+(monD c n).Pairs.length<=4:=by
     rw[q2]
     show s.2.length+1<=4
     omega
    unfold dw fL
    rw[bC,hcj,bt,bt,su hs (hb c hcm) (hcc.2 c hcm) hn,ss hs (hcc.2 c hcm) hn,bt,bt]
    have hJ:g6 p ⟨s.1,s.2⟩ (monD c n)=dR ⟨s.1,s.2⟩ (monD c n) (n:Int):=by
     have hb1:∀D:Det,detOk p D=true->∀x∈D.Pairs,x.Ask.length<=1000000000/\x.Give.length<=1000000000:=λD hD x hx=>by
      obtain⟨d1,d2,_,_⟩:=gL hD
      unfold detOk at hD
      simp only[vv]at hD
      have hp:=hD.1.2
      unfold pairsOk at hp
      rw[vv,List.all_eq_true]at hp
      have:=hp.2 x hx
      unfold pairOk at this
      rw[vv]at this
      have a1:=(St.of this.1).len
      have a2:=(St.of this.2).len
      omega
     unfold g6
     rw[jk hs (hb1 _ hd),hd,bt,vw,cond_false,jk hs (hb1 _ q1),q1,bt,vw,bt,cond_false,wr' (by omega) (by omega),decide_eq_false (by omega),bt,cond_false,eH hs,hn,bt]
     cases dR ⟨s.1,s.2⟩ (monD c n) (n:Int) <;> rfl
    rw[hJ]
    rcases qM hs hd q1 hsum hn' with ⟨j1,j2,j3⟩ | ⟨K,R,hK,j1,j2⟩
    · rw[j1,j2]
      refine⟨_,_,rfl,rfl,rfl,rfl,?_⟩
      have z1:=hP.size
      have z2:(monD c n).Next.length<=4:=sM c n
      rw[vB,Nat.min_eq_left (by omega)]at z1
      by_cases hj2:j<2
      · exfalso
        have z3:4 ^ j<=4 ^ 1:=Nat.pow_le_pow_right (by omega) (by omega)
        have z4:(⟨s.1,s.2⟩:Det).Next.length * (monD c n).Next.length<=4 * 4:=Nat.mul_le_mul (by omega) z2
        omega
      · omega
    · rw[j1,j2]
      refine⟨_,_,rfl,rfl,rfl,?_,vm hsum hn' hK,?_⟩
      · rw[vG,hcj]
        exact PR.snoc hP hK
      · show((s.2.map _++(monD c n).Pairs.map _).length)=_
        rw[vx,vI,vI,hl,q2]) cs.length 0 ([hV n 0],[]) ([hV n 0],[]) (by omega) ⟨rfl,PR.nil,hone,rfl⟩
   have w1':cntM (dw p cs) cs.length 0 ([hV n 0],[])=some o:=w1
   have w2':cntM (fL p cs) cs.length 0 ([hV n 0],[])=some t:=w2
   rw[w1',w2',bt,bt]
   match o,t,w3 with
   | .inl r,.inl r',w3=>
    left
    rw[w3.1,w3.2.1]
    exact⟨rfl,rfl,λ_ _=>w3.2.2⟩
   | .inr s,.inr t,.inl ⟨e,hP,hd,hl⟩=>
    right
    subst e
    rw[List.take_length]at hP
    exact⟨rfl,rfl,n,⟨s.1,s.2⟩,hn',by omega,hP,hd,hl,rfl,rfl⟩
end Go.Proofs.Ytpcjbkgbnoocaaa
set_option linter.unusedVariables false
set_option linter.unusedSimpArgs false
namespace Go.Proofs.Ytpcjbkgbnoocaaa.Par
open Classical
structure Gm where
 own:Int->Bool
 pri:Int->Int
 E:Int->Int->Prop
variable (G:Gm)
def oddP (d:Int):Bool:=decide (d % 2=1)
def Play (p:Bool) (D:Int->Prop) (σ:Int->Int) (π:Nat->Int):Prop:=∀n,D (π n)/\G.E (π n) (π (n+1))/\(G.own (π n)=p->π (n+1)=σ (π n))
def Wins (p:Bool) (π:Nat->Int):Prop:=∃d,oddP d=p/\(∀N,∃n,N<=n/\G.pri (π n)=d)/\∃N,∀n,N<=n->G.pri (π n)<=d
def Dom (X:Int->Prop) (p:Bool) (D:Int->Prop):Prop:=∃σ:Int->Int,(∀v,D v->X v)/\(∀v,D v->G.own v=p->G.E v (σ v)/\D (σ v))/\(∀v u,D v->¬G.own v=p->G.E v u->X u->D u)/\∀π,Play G p D σ π->Wins G p π
def NoDead (X:Int->Prop):Prop:=∀v,X v->∃u,G.E v u/\X u
structure IsAttr (X:Int->Prop) (p:Bool) (S A:Int->Prop):Prop where
 sub:∀v,A v->X v
 base:∀v,X v->S v->A v
 rank:∃r:Int->Nat,∀v,A v->S v\/(G.own v=p/\∃u,G.E v u/\A u/\r u<r v)\/(¬G.own v=p/\∀u,G.E v u->X u->A u/\r u<r v)
 mine:∀v u,X v->¬A v->G.own v=p->G.E v u->X u->¬A u
 yours:∀v,X v->¬A v->¬G.own v=p->∃u,G.E v u/\X u/\¬A u
def Mn (X A:Int->Prop):Int->Prop:=λv=>X v/\¬A v
variable {G}{X:Int->Prop}{p:Bool}{S A D D':Int->Prop}
theorem Wins.tail {π:Nat->Int}(k:Nat) (h:Wins G p (λn=>π (n+k))):Wins G p π:=by
 obtain⟨d,h1,h2,N,h3⟩:=h
 refine⟨d,h1,λM=>?_,N+k,λn hn=>?_⟩
 · obtain⟨n,hn,he⟩:=h2 M
   exact⟨n+k,by omega,he⟩
 · have:=h3 (n-k) (by omega)
   dsimp only at this
   rwa [show n-k+k=n from by omega]at this
theorem Wins.not_both {π:Nat->Int}(h:Wins G p π) (h':Wins G (!p) π):False:=by
 obtain⟨d,a1,a2,N,a3⟩:=h
 obtain⟨e,b1,b2,M,b3⟩:=h'
 obtain⟨n,n1,n2⟩:=a2 M
 obtain⟨m,m1,m2⟩:=b2 N
 have:=b3 n n1
 have:=a3 m m1
 have:d=e:=by omega
 subst this
 rw[a1]at b1
 cases p <;> cases b1
theorem Play.tail {σ:Int->Int}{π:Nat->Int}(h:Play G p D σ π) (k:Nat):Play G p D σ (λn=>π (n+k)):=λn=>by
 have:=h (n+k)
 rwa [show n+k+1=n+1+k from by omega]at this
theorem Dom.disj (h:Dom G X p D) (h':Dom G X (!p) D'){v:Int}(hv:D v) (hv':D' v):False:=by
 obtain⟨σ,a1,a2,a3,a4⟩:=h
 obtain⟨τ,b1,b2,b3,b4⟩:=h'
 let f:Int->Int:=λv=>if G.own v=p then σ v else τ v
 let π:Nat->Int:=λn=>Nat.rec v (λ_ x=>f x) n
 have hs:∀n,π (n+1)=f (π n):=λn=>rfl
 have key:∀w,D w->D' w->G.E w (f w)/\D (f w)/\D' (f w):=λw hw hw'=>by
  by_cases ho:G.own w=p
  · have e:f w=σ w:=if_pos ho
    obtain⟨k1,k2⟩:=a2 w hw ho
    rw[e]
    exact⟨k1,k2,b3 w _ hw' (by rw[ho];cases p <;> simp) k1 (a1 _ k2)⟩
  · have e:f w=τ w:=if_neg ho
    obtain⟨k1,k2⟩:=b2 w hw' (by revert ho;cases G.own w <;> cases p <;> simp)
    rw[e]
    exact⟨k1,a3 w _ hw ho k1 (b1 _ k2),k2⟩
 have inv:∀n,D (π n)/\D' (π n):=λn=>by
  induction n with
  | zero=>exact⟨hv,hv'⟩
  | succ n ih=>
   obtain⟨_,k2,k3⟩:=key _ ih.1 ih.2
   rw[hs];exact⟨k2,k3⟩
 refine(a4 π λn=>⟨(inv n).1,by rw[hs];exact(key _ (inv n).1 (inv n).2).1,λho=>by rw[hs];exact if_pos ho⟩).not_both (b4 π λn=>⟨(inv n).2,by rw[hs];exact(key _ (inv n).1 (inv n).2).1,λho=>by rw[hs];exact if_neg (by rw[ho];cases p <;> simp)⟩)
theorem Dom.empty:Dom G X p (λ_=>False):=⟨id,λ_ h=>h.elim,λ_ h=>h.elim,λ_ _ h=>h.elim,λπ h=>(h 0).1.elim⟩
theorem Dom.congr (h:Dom G X p D) (e:∀v,D v↔D' v):Dom G X p D':=by
 have:D=D':=funext λv=>propext (e v)
 exact this ▸ h
theorem descent {r:Nat->Nat}(h:∀n,r (n+1)<r n):False:=by
 have:∀n,r n+n<=r 0:=λn=>by
  induction n with
  | zero=>omega
  | succ n ih=>have:=h n;omega
 have:=this (r 0+1)
 omega
theorem Dom.grow (h1:Dom G X p D) (hA:IsAttr G X p D A) (h2:Dom G (Mn X A) p D'):Dom G X p (λv=>A v\/D' v):=by
 obtain⟨σ,a1,a2,a3,a4⟩:=h1
 obtain⟨τ,b1,b2,b3,b4⟩:=h2
 obtain⟨r,hr⟩:=hA.rank
 have hDA:∀v,D v->A v:=λv hv=>hA.base v (a1 v hv) hv
 let f:Int->Int:=λv=>if D v then σ v else if h:∃u,G.E v u/\A u/\r u<r v then h.choose else τ v
 have fD:∀v,D v->f v=σ v:=λv hv=>if_pos hv
 have fA:∀v,A v->¬D v->G.own v=p->G.E v (f v)/\A (f v)/\r (f v)<r v:=λv hv hd ho=>by
  rcases hr v hv with h | ⟨_,h⟩ | ⟨h,_⟩
  · exact absurd h hd
  · have e:f v=h.choose:=by show(if D v then _ else _)=_;rw[if_neg hd,dif_pos h]
    rw[e];exact h.choose_spec
  · exact absurd ho h
 have fT:∀v,D' v->G.own v=p->f v=τ v:=λv hv ho=>by
  obtain⟨hx,ha⟩:=b1 v hv
  have:¬∃u,G.E v u/\A u/\r u<r v:=λ⟨u,k1,k2,_⟩=>hA.mine v u hx ha ho k1 (hA.sub u k2) k2
  show(if D v then _ else _)=_
  rw[if_neg (λh=>ha (hDA v h)),dif_neg this]
 refine⟨f,?_,?_,?_,?_⟩
 · rintro v (h | h)
   · exact hA.sub v h
   · exact(b1 v h).1
 · rintro v (h | h) ho
   · by_cases hd:D v
     · rw[fD v hd];exact⟨(a2 v hd ho).1,.inl (hDA _ (a2 v hd ho).2)⟩
     · exact⟨(fA v h hd ho).1,.inl (fA v h hd ho).2.1⟩
   · rw[fT v h ho];exact⟨(b2 v h ho).1,.inr (b2 v h ho).2⟩
 · rintro v u (h | h) ho he hx
   · by_cases hd:D v
     · exact .inl (hDA u (a3 v u hd ho he hx))
     · rcases hr v h with h' | ⟨h',_⟩ | ⟨_,h'⟩
       · exact absurd h' hd
       · exact absurd h' ho
       · exact .inl (h' u he hx).1
   · by_cases ha:A u
     · exact .inl ha
     · exact .inr (b3 v u h ho he ⟨hx,ha⟩)
 · intro π hπ
   have hX:∀n,X (π n):=λn=>by
    rcases(hπ n).1 with h | h
    · exact hA.sub _ h
    · exact(b1 _ h).1
   by_cases hD:∃n,D (π n)
   · obtain⟨n,hn⟩:=hD
     have st:∀k,D (π (k+n)):=λk=>by
      induction k with
      | zero=>rwa [Nat.zero_add]
      | succ k ih=>
       have e:k+1+n=k+n+1:=by omega
       by_cases ho:G.own (π (k+n))=p
       · have:=(hπ (k+n)).2.2 ho
         rw[fD _ ih]at this
         rw[e,this]
         exact(a2 _ ih ho).2
       · rw[e];exact a3 _ _ ih ho (hπ (k+n)).2.1 (hX _)
     refine Wins.tail n (a4 _ λk=>⟨st k,?_,λho=>?_⟩)
     · have:=(hπ (k+n)).2.1
       rwa [show k+n+1=k+1+n from by omega]at this
     · have:=(hπ (k+n)).2.2 ho
       rw[fD _ (st k),show k+n+1=k+1+n from by omega]at this
       exact this
   · have hD:∀n,¬D (π n):=λn h=>hD ⟨n,h⟩
     by_cases hA':∃n,A (π n)
     · obtain⟨n,hn⟩:=hA'
       have step:∀m,A (π m)->A (π (m+1))/\r (π (m+1))<r (π m):=λm hm=>by
        by_cases ho:G.own (π m)=p
        · rw[(hπ m).2.2 ho];exact(fA _ hm (hD m) ho).2
        · rcases hr _ hm with h' | ⟨h',_⟩ | ⟨_,h'⟩
          · exact absurd h' (hD m)
          · exact absurd h' ho
          · exact h' _ (hπ m).2.1 (hX _)
       have st:∀k,A (π (k+n)):=λk=>by
        induction k with
        | zero=>rwa [Nat.zero_add]
        | succ k ih=>rw[show k+1+n=k+n+1 from by omega];exact(step _ ih).1
       exact(descent (r:=λk=>r (π (k+n))) λk=>by
        have:=(step _ (st k)).2
        rwa [show k+n+1=k+1+n from by omega]at this).elim
     · have hT:∀n,D' (π n):=λn=>(hπ n).1.resolve_left λh=>hA' ⟨n,h⟩
       refine b4 π λn=>⟨hT n,(hπ n).2.1,λho=>?_⟩
       rw[(hπ n).2.2 ho,fT _ (hT n) ho]
theorem Dom.lift (hA:IsAttr G X p S A) (h:Dom G (Mn X A) (!p) D):Dom G X (!p) D:=by
 obtain⟨τ,b1,b2,b3,b4⟩:=h
 refine⟨τ,λv hv=>(b1 v hv).1,b2,λv u hv ho he hx=>b3 v u hv ho he ⟨hx,?_⟩,b4⟩
 have ho':G.own v=p:=by revert ho;cases G.own v <;> cases p <;> simp
 exact hA.mine v u (b1 v hv).1 (b1 v hv).2 ho' he hx
theorem Dom.top {d:Int}(hN:NoDead G X) (hd:∀v,X v->G.pri v<=d) (hp:oddP d=p) (hA:IsAttr G X p (λv=>G.pri v=d) A) (h:Dom G (Mn X A) p (Mn X A)):Dom G X p X:=by
 obtain⟨τ,b1,b2,b3,b4⟩:=h
 obtain⟨r,hr⟩:=hA.rank
 let f:Int->Int:=λv=>if h:∃u,G.E v u/\A u/\r u<r v then h.choose else if A v then(if h:∃u,G.E v u/\X u then h.choose else v) else τ v
 have fT:∀v,Mn X A v->G.own v=p->f v=τ v:=λv hv ho=>by
  have:¬∃u,G.E v u/\A u/\r u<r v:=λ⟨u,k1,k2,_⟩=>hA.mine v u hv.1 hv.2 ho k1 (hA.sub u k2) k2
  show(if h:_ then _ else _)=_
  rw[dif_neg this,if_neg hv.2]
 have fA:∀v,A v->¬G.pri v=d->G.own v=p->A (f v)/\r (f v)<r v:=λv hv hd ho=>by
  rcases hr v hv with h | ⟨_,h⟩ | ⟨h,_⟩
  · exact absurd h hd
  · have e:f v=h.choose:=dif_pos h
    rw[e];exact h.choose_spec.2
  · exact absurd ho h
 refine⟨f,λ_ h=>h,λv hv ho=>?_,λv u _ _ _ hx=>hx,λπ hπ=>?_⟩
 · by_cases ha:A v
   · by_cases h:∃u,G.E v u/\A u/\r u<r v
     · have e:f v=h.choose:=dif_pos h
       rw[e];exact⟨h.choose_spec.1,hA.sub _ h.choose_spec.2.1⟩
     · have h2:=hN v hv
       have e:f v=h2.choose:=by
        show(if h:_ then _ else _)=_
        rw[dif_neg h,if_pos ha,dif_pos h2]
       rw[e];exact h2.choose_spec
   · rw[fT v ⟨hv,ha⟩ ho]
     have:=b2 v ⟨hv,ha⟩ ho
     exact⟨this.1,this.2.1⟩
 · have hX:∀n,X (π n):=λn=>(hπ n).1
   by_cases hinf:∀N,∃n,N<=n/\G.pri (π n)=d
   · exact⟨d,hp,hinf,0,λn _=>hd _ (hX n)⟩
   · obtain⟨N,hN'⟩:=Classical.not_forall.1 hinf
     have hne:∀n,N<=n->¬G.pri (π n)=d:=λn hn h=>hN' ⟨n,hn,h⟩
     by_cases hA':∃n,N<=n/\A (π n)
     · obtain⟨n,hnN,hn⟩:=hA'
       have step:∀m,N<=m->A (π m)->A (π (m+1))/\r (π (m+1))<r (π m):=λm hm' hm=>by
        by_cases ho:G.own (π m)=p
        · rw[(hπ m).2.2 ho];exact fA _ hm (hne m hm') ho
        · rcases hr _ hm with h' | ⟨h',_⟩ | ⟨_,h'⟩
          · exact absurd h' (hne m hm')
          · exact absurd h' ho
          · exact h' _ (hπ m).2.1 (hX _)
       have st:∀k,A (π (k+n)):=λk=>by
        induction k with
        | zero=>rwa [Nat.zero_add]
        | succ k ih=>rw[show k+1+n=k+n+1 from by omega];exact(step _ (by omega) ih).1
       exact(descent (r:=λk=>r (π (k+n))) λk=>by
        have:=(step _ (by omega) (st k)).2
        rwa [show k+n+1=k+1+n from by omega]at this).elim
     · have hT:∀n,N<=n->Mn X A (π n):=λn hn=>⟨hX n,λh=>hA' ⟨n,hn,h⟩⟩
       refine Wins.tail N (b4 _ λk=>⟨hT _ (by omega),?_,λho=>?_⟩)
       · have:=(hπ (k+N)).2.1
         rwa [show k+N+1=k+1+N from by omega]at this
       · have:=(hπ (k+N)).2.2 ho
         rw[fT _ (hT _ (by omega)) ho,show k+N+1=k+1+N from by omega]at this
         exact this
theorem NoDead.less (h:NoDead G X) (hA:IsAttr G X p S A):NoDead G (Mn X A):=λv ⟨hx,ha⟩=>by
 by_cases ho:G.own v=p
 · obtain⟨u,k1,k2⟩:=h v hx
   exact⟨u,k1,k2,hA.mine v u hx ha ho k1 k2⟩
 · obtain⟨u,k1,k2,k3⟩:=hA.yours v hx ha ho
   exact⟨u,k1,k2,k3⟩
structure Sol (G:Gm) (X:Int->Prop) (p:Bool) (W:Int->Prop):Prop where
 sub:∀v,W v->X v
 mine:Dom G X p W
 yours:Dom G X (!p) (Mn X W)
theorem Sol.uniq {W W':Int->Prop}(h:Sol G X p W) (h':Sol G X p W') (v:Int):W v↔W' v:=by
 constructor
 · intro hv
   by_cases hv':W' v
   · exact hv'
   · exact(Dom.disj h.mine h'.yours hv ⟨h.sub v hv,hv'⟩).elim
 · intro hv
   by_cases hv':W v
   · exact hv'
   · exact(Dom.disj h'.mine h.yours hv ⟨h'.sub v hv,hv'⟩).elim
theorem Sol.flip {W:Int->Prop}(h:Sol G X p W):Sol G X (!p) (Mn X W):=by
 refine⟨λv hv=>hv.1,h.yours,?_⟩
 rw[Bool.not_not]
 refine h.mine.congr λv=>⟨λhv=>⟨h.sub v hv,λhm=>hm.2 hv⟩,λhv=>?_⟩
 by_cases hw:W v
 · exact hw
 · exact absurd ⟨hv.1,hw⟩ hv.2
theorem Sol.congr {W W':Int->Prop}(h:Sol G X p W) (e:∀v,W v↔W' v):Sol G X p W':=by
 have:W=W':=funext λv=>propext (e v)
 exact this ▸ h
end Go.Proofs.Ytpcjbkgbnoocaaa.Par
set_option linter.unusedVariables false
set_option linter.unusedSimpArgs false
namespace Go.Proofs.Ytpcjbkgbnoocaaa
open Go Go.Wk Go.Proofs
theorem cz {α:Type}{xs ys:List α}{i v:Int}{x:α}(h:setI xs i x=some ys):idx ys v=if v=i then some x else idx xs v:=by
 obtain⟨h0,h1,rfl,_⟩:=lj h
 unfold idx
 by_cases hv:0<=v
 · rw[if_pos hv,if_pos hv]
   by_cases e:v=i
   · subst e
     rw[if_pos rfl,List.getElem?_set_self (by omega)]
   · rw[if_neg e,List.getElem?_set_ne (by omega)]
 · rw[if_neg hv,if_neg hv,if_neg (by omega)]
theorem cr {α:Type}{xs:List α}{i:Int}(x:α) (h0:0<=i) (h1:i<xs.length):∃ys,setI xs i x=some ys/\ys.length=xs.length:=by
 have:setI xs i x=some (xs.set i.toNat x):=by unfold setI;rw[if_pos ⟨h0,h1⟩]
 exact⟨_,this,(lj this).2.2.2⟩
theorem ca {α:Type}{xs:List α}{i:Int}(h0:0<=i) (h1:i<xs.length):∃x,idx xs i=some x:=by
 obtain⟨x,h,_⟩:=dF h0 h1
 exact⟨x,h⟩
theorem ci {α:Type}{xs:List α}{i:Int}{x:α}(h:idx xs i=some x):0<=i/\i<xs.length:=⟨(i8 h).1,(i8 h).2.1⟩
def posL (v:Int):List Int->Nat
 | []=>0
 | x::xs=>if x=v then 0 else posL v xs+1
theorem qn {v:Int}:∀{Q:List Int},v∈Q->Q[posL v Q]? =some v
 | x::xs,h=>by
  unfold posL
  by_cases e:x=v
  · rw[if_pos e,e];rfl
  · rw[if_neg e]
    rcases List.mem_cons.1 h with h | h
    · exact absurd h.symm e
    · simpa using qn h
theorem rB {v:Int}:∀{Q:List Int}{m:Nat},Q[m]? =some v->posL v Q<=m
 | x::xs,0,h=>by
  unfold posL
  simp at h
  rw[if_pos h];omega
 | x::xs,m+1,h=>by
  unfold posL
  split
  · omega
  · have:=rB (Q:=xs) (m:=m) (by simpa using h)
    omega
theorem sd {u:Int}{Q:List Int}{k:Nat}(h:u∈Q.take k):posL u Q<k:=by
 obtain⟨m,hm⟩:=List.mem_iff_getElem?.1 h
 rw[List.getElem?_take]at hm
 split at hm
 · have:=rB hm;omega
 · cases hm
def In (B:List Bool) (v:Int):Prop:=idx B v=some true
section
variable (row:Int->List Int) (own:Int->Bool) (pri:Int->Int) (inn:Int->Prop) (p:Bool) (goal:Int->Prop)
def mkG:Par.Gm:=⟨own,pri,λv u=>u∈row v⟩
structure Cert (Q:List Int):Prop where
 nd:Q.Nodup
 mem:∀v∈Q,inn v
 why:∀(k:Nat) v,Q[k]? =some v->goal v\/(own v=p/\∃u∈Q.take k,u∈row v)\/(¬own v=p/\∀u∈row v,inn u->u∈Q.take k)
variable {row own pri inn p goal}
theorem Cert.snoc {Q:List Int}(h:Cert row own inn p goal Q){v:Int}(hv:v∉Q) (hi:inn v) (hw:goal v\/(own v=p/\∃u∈Q,u∈row v)\/(¬own v=p/\∀u∈row v,inn u->u∈Q)):Cert row own inn p goal (Q++[v]):=by
 refine⟨?_,?_,?_⟩
 · rw[List.nodup_append]
   exact⟨h.nd,by simp,λa ha b hb=>by simp at hb;subst hb;exact λe=>hv (e ▸ ha)⟩
 · intro x hx
   rcases vF.1 hx with hx | hx
   · exact h.mem x hx
   · simp at hx;subst hx;exact hi
 · intro k x hk
   by_cases hlt:k<Q.length
   · rw[List.getElem?_append_left hlt]at hk
     rw[List.take_append_of_le_length (by omega)]
     exact h.why k x hk
   · have:k=Q.length:=by
      have:=(gs.1 hk).1
      simp at this;omega
     subst this
     rw[List.getElem?_append_right (Nat.le_refl _),Nat.sub_self]at hk
     simp at hk
     subst hk
     rw[List.take_append_of_le_length (Nat.le_refl _),List.take_length]
     exact hw
def Trap (row:Int->List Int) (own:Int->Bool) (inn:Int->Prop) (p:Bool) (Q:List Int) (d:Int->Int->Prop):Prop:=∀v,inn v->v∉Q->(own v=p->∀y∈row v,inn y->¬d v y)/\(¬own v=p->∃y∈row v,inn y/\¬d v y)
theorem Cert.attr {Q:List Int}(h:Cert row own inn p goal Q) (hg:∀v,inn v->goal v->v∈Q) (ht:Trap row own inn p Q (λ_ y=>y∈Q)):Par.IsAttr (mkG row own pri) inn p goal (λv=>v∈Q):=by
 refine⟨h.mem,hg,⟨λv=>posL v Q,λv hv=>?_⟩,?_,?_⟩
 · have hlt:∀u,u∈Q.take (posL v Q)->u∈Q/\posL u Q<posL v Q:=λu hu=>⟨List.mem_of_mem_take hu,sd hu⟩
   rcases h.why _ v (qn hv) with hw | ⟨ho,u,hu,hr⟩ | ⟨ho,hw⟩
   · exact .inl hw
   · exact .inr (.inl ⟨ho,u,hr,hlt u hu⟩)
   · exact .inr (.inr ⟨ho,λu hr hx=>hlt u (hw u hr hx)⟩)
 · intro v u hx hq ho he hxu
   exact(ht v hx hq).1 ho u he hxu
 · intro v hx hq ho
   obtain⟨y,h1,h2,h3⟩:=(ht v hx hq).2 ho
   exact⟨y,h1,h2,h3⟩
end
open Classical in
noncomputable def lf (row:List Int) (inn d:Int->Prop):Nat:=(row.filter (λy=>decide (inn y/\¬d y))).length
theorem rW {row:List Int}{inn d:Int->Prop}:lf row inn d=0↔∀y∈row,inn y->d y:=by
 classical
 unfold lf
 rw[List.length_eq_zero_iff,List.filter_eq_nil_iff]
 constructor
 · intro h y hy hi
   by_cases hd:d y
   · exact hd
   · exact absurd (by simp;exact⟨hi,hd⟩) (h y hy)
 · intro h y hy hc
   simp at hc
   exact hc.2 (h y hy hc.1)
theorem ea {row:List Int}{inn d d':Int->Prop}(h:∀y∈row,inn y->(d y↔d' y)):lf row inn d=lf row inn d':=by
 classical
 unfold lf
 congr 1
 apply List.filter_congr
 intro y hy
 by_cases hi:inn y
 · simp[hi,h y hy hi]
 · simp[hi]
theorem sO {row:List Int}{inn d:Int->Prop}:lf row inn d<=row.length:=by
 unfold lf;exact List.length_filter_le _ _
theorem pR {inn d:Int->Prop}{u:Int}:∀{row:List Int},row.Nodup->u∈row->inn u->¬d u->lf row inn (λy=>d y\/y=u)+1=lf row inn d
 | x::xs,hn,hu,hi,hd=>by
  classical
  have hn':=List.nodup_cons.1 hn
  by_cases e:x=u
  · subst e
    have:lf xs inn (λy=>d y\/y=x)=lf xs inn d:=ea λy hy _=>⟨λh=>h.resolve_right λe=>hn'.1 (e ▸ hy),.inl⟩
    unfold lf at this ⊢
    rw[List.filter_cons,if_neg (by simp),List.filter_cons,if_pos (by simp[hi,hd]),vA,this]
  · have hu':u∈xs:=(List.mem_cons.1 hu).resolve_left λh=>e h.symm
    have ih:=pR hn'.2 hu' hi hd
    unfold lf at ih ⊢
    rw[List.filter_cons,List.filter_cons]
    by_cases hc:inn x/\¬d x
    · rw[if_pos (by simp[hc,e]),if_pos (by simp[hc]),vA,vA,← ih]
    · rw[if_neg (by simp[e];exact λh=>Classical.byContradiction λh2=>hc ⟨h,h2⟩),if_neg (by simp;exact λh=>Classical.byContradiction λh2=>hc ⟨h,h2⟩),ih]
def dn (T:List Int) (u:Int) (L:List Int) (v y:Int):Prop:=y∈T\/(y=u/\v∈L)
structure Mid (row:Int->List Int) (own:Int->Bool) (inn:Int->Prop) (p:Bool) (goal:Int->Prop) (T:List Int) (u:Int) (L Q:List Int):Prop where
 cert:Cert row own inn p goal Q
 hu:∃R,Q=T++u::R
 trap:Trap row own inn p Q (dn T u L)
section
variable {row:Int->List Int}{own:Int->Bool}{inn:Int->Prop}{p:Bool}{goal:Int->Prop}{T:List Int}{u:Int}{L Q:List Int}
theorem Mid.u_in (h:Mid row own inn p goal T u L Q):u∈Q/\u∉T/\inn u:=by
 obtain⟨R,e⟩:=h.hu
 have hq:u∈Q:=by rw[e];simp
 refine⟨hq,?_,h.cert.mem u hq⟩
 have:=h.cert.nd
 rw[e,List.nodup_append]at this
 exact λht=>this.2.2 u ht u (by simp) rfl
theorem fd {v w y:Int}(h:w≠v):dn T u (L++[v]) w y↔dn T u L w y:=by
 unfold dn
 rw[vF,vy]
 constructor
 · rintro(h1 | ⟨h1,h2 | h2⟩)
   · exact .inl h1
   · exact .inr ⟨h1,h2⟩
   · exact absurd h2 h
 · rintro(h1 | ⟨h1,h2⟩)
   · exact .inl h1
   · exact .inr ⟨h1,.inl h2⟩
theorem oR {v y:Int}:dn T u (L++[v]) v y↔y∈T\/y=u:=by
 unfold dn;simp
theorem jM {v y:Int}(h:v∉L):dn T u L v y↔y∈T:=by
 unfold dn;simp[h]
theorem Mid.skip (h:Mid row own inn p goal T u L Q){v:Int}(hv:¬inn v\/v∈Q\/u∉row v):Mid row own inn p goal T u (L++[v]) Q:=by
 refine⟨h.cert,h.hu,λw hw hq=>?_⟩
 obtain⟨t1,t2⟩:=h.trap w hw hq
 by_cases e:w=v
 · subst e
   have hu:u∉row w:=by
    rcases hv with hv | hv | hv
    · exact absurd hw hv
    · exact absurd hv hq
    · exact hv
   have key:∀y∈row w,(dn T u (L++[w]) w y↔dn T u L w y):=λy hy=>by
    have hyu:y≠u:=λe=>hu (e ▸ hy)
    unfold dn;simp[hyu]
   refine⟨λho y hy hi=>λhd=>t1 ho y hy hi ((key y hy).1 hd),λho=>?_⟩
   obtain⟨y,h1,h2,h3⟩:=t2 ho
   exact⟨y,h1,h2,λhd=>h3 ((key y h1).1 hd)⟩
 · refine⟨λho y hy hi=>λhd=>t1 ho y hy hi ((fd e).1 hd),λho=>?_⟩
   obtain⟨y,h1,h2,h3⟩:=t2 ho
   exact⟨y,h1,h2,λhd=>h3 ((fd e).1 hd)⟩
theorem Mid.stay (h:Mid row own inn p goal T u L Q){v:Int}(ho:¬own v=p) (hl:lf (row v) inn (λy=>y∈T\/y=u)≠0):Mid row own inn p goal T u (L++[v]) Q:=by
 refine⟨h.cert,h.hu,λw hw hq=>?_⟩
 obtain⟨t1,t2⟩:=h.trap w hw hq
 by_cases e:w=v
 · subst e
   refine⟨λho'=>absurd ho' ho,λ_=>?_⟩
   apply Classical.byContradiction
   intro hc
   apply hl
   rw[rW]
   intro y hy hi
   apply Classical.byContradiction
   intro hd
   exact hc ⟨y,hy,hi,λh=>hd (oR.1 h)⟩
 · refine⟨λho y hy hi=>λhd=>t1 ho y hy hi ((fd e).1 hd),λho=>?_⟩
   obtain⟨y,h1,h2,h3⟩:=t2 ho
   exact⟨y,h1,h2,λhd=>h3 ((fd e).1 hd)⟩
theorem Mid.add (h:Mid row own inn p goal T u L Q){v:Int}(hi:inn v) (hq:v∉Q) (hu:u∈row v) (hw:own v=p\/lf (row v) inn (λy=>y∈T\/y=u)=0):Mid row own inn p goal T u (L++[v]) (Q++[v]):=by
 obtain⟨R,e⟩:=h.hu
 have hTQ:∀y,y∈T\/y=u->y∈Q:=λy hy=>by
  rw[e]
  rcases hy with hy | hy
  · simp[hy]
  · simp[hy]
 refine⟨h.cert.snoc hq hi ?_,⟨R++[v],by rw[e];simp⟩,λw hw' hq'=>?_⟩
 · by_cases ho:own v=p
   · exact .inr (.inl ⟨ho,u,h.u_in.1,hu⟩)
   · exact .inr (.inr ⟨ho,λy hy hyi=>hTQ y ((rW.1 (hw.resolve_left ho)) y hy hyi)⟩)
 · rw[vF,vy,not_or]at hq'
   obtain⟨t1,t2⟩:=h.trap w hw' hq'.1
   refine⟨λho y hy hi=>λhd=>t1 ho y hy hi ((fd hq'.2).1 hd),λho=>?_⟩
   obtain⟨y,h1,h2,h3⟩:=t2 ho
   exact⟨y,h1,h2,λhd=>h3 ((fd hq'.2).1 hd)⟩
theorem Mid.first {R:List Int}(hc:Cert row own inn p goal (T++u::R)) (ht:Trap row own inn p (T++u::R) (λ_ y=>y∈T)):Mid row own inn p goal T u [] (T++u::R):=by
 refine⟨hc,⟨R,rfl⟩,λv hv hq=>?_⟩
 obtain⟨t1,t2⟩:=ht v hv hq
 refine⟨λho y hy hi hd=>t1 ho y hy hi ((jM (by simp)).1 hd),λho=>?_⟩
 obtain⟨y,h1,h2,h3⟩:=t2 ho
 exact⟨y,h1,h2,λhd=>h3 ((jM (by simp)).1 hd)⟩
theorem Mid.last (h:Mid row own inn p goal T u L Q) (hL:∀v,inn v->u∈row v->v∈L):Trap row own inn p Q (λ_ y=>y∈T++[u]):=λv hv hq=>by
 obtain⟨t1,t2⟩:=h.trap v hv hq
 have key:∀y∈row v,(y∈T++[u]->dn T u L v y):=λy hy hm=>by
  rw[vF,vy]at hm
  rcases hm with hm | hm
  · exact .inl hm
  · exact .inr ⟨hm,hL v hv (hm ▸ hy)⟩
 refine⟨λho y hy hi hd=>t1 ho y hy hi (key y hy hd),λho=>?_⟩
 obtain⟨y,h1,h2,h3⟩:=t2 ho
 exact⟨y,h1,h2,λhd=>h3 (by
  rcases vF.1 hd with hm | hm
  · exact .inl hm
  · rw[vy]at hm
    exact .inr ⟨hm,hL v hv (hm ▸ h1)⟩)⟩
end
end Go.Proofs.Ytpcjbkgbnoocaaa
set_option linter.unusedVariables false
set_option linter.unusedSimpArgs false
namespace Go.Proofs.Ytpcjbkgbnoocaaa
open Go Go.Wk Go.Proofs
structure WfS (x:l7Game) (n:Nat):Prop where
 n256:n<=256
 lo:x.owner.length=n
 lp:x.prio.length=n
 ln:x.next.length=n
 lk:x.pick.length=n
 lv:x.prev.length=n
 ow:∀v o,idx x.owner v=some o->o=0\/o=1
 row:∀v r,idx x.next v=some r->r.length<=16/\r.Nodup/\∀u∈r,0<=u/\u<n
 prev:∀u P,idx x.prev u=some P->P.Nodup/\P.length<=100000/\∀v,v∈P↔∃r,idx x.next v=some r/\u∈r
def okE (k u:Int):Bool:=decide (k<0)||(k==u)
def rowS (x:l7Game) (v:Int):List Int:=match idx x.next v,idx x.pick v with
 | some r,some k=>r.filter (okE k)
 | _,_=>[]
def ownL (O:List Int) (v:Int):Bool:=match idx O v with
 | some o=>o==1
 | none=>false
def priL (P:List Int) (v:Int):Int:=(idx P v).getD 0
theorem pq {x:l7Game}{v k:Int}{r:List Int}(hr:idx x.next v=some r) (hk:idx x.pick v=some k):rowS x v=r.filter (okE k):=by unfold rowS;rw[hr,hk]
theorem tp {x:l7Game}{v k:Int}(u:Int) (hk:idx x.pick v=some k):jB x v u=some (okE k u):=by
 unfold jB okE
 rw[hk,bt]
 cases decide (k<0) <;> simp
theorem rJ {O:List Int}{v o:Int}{p:Bool}(h:idx O v=some o) (ho:o=0\/o=1):(o==b2i p)=decide (ownL O v=p):=by
 unfold ownL
 rw[h]
 rcases ho with rfl | rfl <;> cases p <;> decide
section
variable {x:l7Game}{n:Nat}(wf:WfS x n){B:List Bool}(hB:B.length=n)
include wf
theorem WfS.get {v:Int}(h0:0<=v) (h1:v<n):∃r k,idx x.next v=some r/\idx x.pick v=some k:=by
 have:=wf.ln
 have:=wf.lk
 obtain⟨r,hr⟩:=ca (xs:=x.next) h0 (by omega)
 obtain⟨k,hk⟩:=ca (xs:=x.pick) h0 (by omega)
 exact⟨r,k,hr,hk⟩
theorem pe (v:Int):(rowS x v).Nodup/\(rowS x v).length<=16/\∀u∈rowS x v,0<=u/\u<n:=by
 unfold rowS
 cases hr:idx x.next v with
 | none=>simp
 | some r=>
  cases hk:idx x.pick v with
  | none=>simp
  | some k=>
   obtain⟨h1,h2,h3⟩:=wf.row v r hr
   exact⟨h2.filter _,Nat.le_trans (List.length_filter_le _ _) h1,λu hu=>h3 u (List.mem_filter.1 hu).1⟩
include hB
omit wf in
theorem kX {v:Int}(h:In B v):0<=v/\v<n:=by
 have:=ci h
 rw[hB]at this
 exact this
theorem tw {v:Int}(h0:0<=v) (h1:v<n):iO x B v=some (lf (rowS x v) (In B) (λ_=>False):Int):=by
 classical
 obtain⟨r,k,hr,hk⟩:=wf.get h0 h1
 obtain⟨r1,r2,r3⟩:=wf.row v r hr
 let g:Int->Bool:=λu=>decide (In B u)&&okE k u
 unfold iO
 obtain⟨o,w1,w2⟩:=cm (f:=fa x B v) (λj (s:Int×Int)=>s=((((r.take j).filter g).length:Int),(j:Int))/\j<=r.length) (λ_=>False) (λs=>s.1=((r.filter g).length:Int)) r.length (λj s ⟨hs,hj⟩=>by
  subst hs
  unfold fa
  rw[hr,bt]
  dsimp only
  by_cases hlt:(j:Int)<(r.length:Int)
  · have hu:r[j]? =some r[j]:=bB (by omega)
    generalize r[j]=u at hu
    obtain⟨u0,u1⟩:=r3 u (it hu)
    obtain⟨b,hb⟩:=ca (xs:=B) u0 (by omega)
    have hle:((r.take j).filter g).length<=j:=Nat.le_trans (List.length_filter_le _ _) (by rw[vB];omega)
    simp only[hlt,decide_true,cond_true,bt,bC,hu,hb,tp u hk,andE]
    have hg:(b&&okE k u)=g u:=by
     show _=(decide (In B u)&&okE k u)
     congr 1
     unfold In;rw[hb];cases b <;> simp
    rw[hg]
    have htk:(r.take (j+1)).filter g=(r.take j).filter g++(if g u then[u] else[]):=by
     rw[vG,hu,List.filter_append];congr 1
     cases h:g u <;> simp[h]
    rw[wr' (by omega) (by omega),wr' (by omega) (by omega)]
    cases h:g u with
    | true=>exact⟨_,rfl,by omega,by rw[htk,h];simp,by omega⟩
    | false=>exact⟨_,rfl,by omega,by rw[htk,h];simp,by omega⟩
  · simp only[hlt,decide_false,cond_false]
    refine⟨_,rfl,?_⟩
    dsimp only
    rw[List.take_of_length_le (by omega)]) (2 ^ 64) 0 (0,0) (by omega) ⟨by simp,by omega⟩ (by omega)
 match o,w2 with
 | .inr s,h2=>
  rw[w1,bt,bD,h2,pq hr hk]
  unfold lf
  rw[List.filter_filter]
  congr 3
  apply List.filter_congr
  intro u _
  show(decide (In B u)&&okE k u)=_
  simp
theorem qd {goal:Int->Prop}{p:Bool}{T L Q:List Int}{u v:Int}{out:List Bool}{left:List Int}(hm:Mid (rowS x) (ownL x.owner) (In B) p goal T u L Q) (hvL:v∉L)
 {P:List Int} {j:Nat} (hP:idx x.prev u=some P) (hj:P[j]? =some v) (hQ:Q.length<=100000)
 (ho:out.length=n/\∀v:Int,0<=v->v<n->idx out v=some (decide (v∈Q))) (hl:left.length=n/\∀v,In B v->v∉Q->idx left v=some (lf (rowS x v) (In B) (dn T u L v):Int)):
 ∃Q' out' left',cW x B (b2i p) u (Q,(j:Int),out,left)=some (.inr (.inr (Q',((j+1:Nat):Int),out',left')))/\Mid (rowS x) (ownL x.owner) (In B) p goal T u (L++[v]) Q' /\
  (out'.length=n/\∀v:Int,0<=v->v<n->idx out' v=some (decide (v∈Q')))/\(left'.length=n/\∀w,In B w->w∉Q'->idx left' w=some (lf (rowS x w) (In B) (dn T u (L++[v]) w):Int))/\(∀v∈Q,v∈Q'):=by
 have hn:=wf.n256
 obtain⟨p1,p2,p3⟩:=wf.prev u P hP
 obtain⟨r,hr,hur⟩:=(p3 v).1 (it hj)
 obtain⟨v0,v1⟩:=ci hr
 rw[wf.ln]at v1
 obtain⟨k,hk⟩:=ca (xs:=x.pick) v0 (by rw[wf.lk];exact v1)
 obtain⟨b,hb⟩:=ca (xs:=B) v0 (by omega)
 obtain⟨w,hw⟩:=ca (xs:=x.owner) v0 (by rw[wf.lo];exact v1)
 have hjl:(j:Int)<(P.length:Int):=by have:=(gs.1 hj).1;omega
 have hwr:IntKind.i64.wrap ((j:Int)+1)=((j+1:Nat):Int):=by rw[wr' (by omega) (by omega)];omega
 unfold cW
 rw[hP,bt]
 dsimp only
 simp only[hjl,decide_true,cond_true,bt,bC,hj,hb,ho.2 v v0 v1,tp u hk,orE,hwr]
 have hedge:u∈rowS x v↔okE k u=true:=by rw[pq hr hk,List.mem_filter];exact⟨λh=>h.2,λh=>⟨hur,h⟩⟩
 have hdn:∀w,w≠v->lf (rowS x w) (In B) (dn T u (L++[v]) w)=lf (rowS x w) (In B) (dn T u L w):=λw hw=>ea λy _ _=>fd hw
 by_cases hsk:((!b||decide (v∈Q)) || !okE k u)=true
 · rw[hsk,cond_true]
   have hcond:¬In B v\/v∈Q\/u∉rowS x v:=by
    simp only[Bool.or_eq_true,Bool.not_eq_true',decide_eq_true_eq]at hsk
    rcases hsk with (h | h) | h
    · left;unfold In;rw[hb,h];simp
    · exact .inr (.inl h)
    · right;right;rw[hedge,h];simp
   refine⟨Q,out,left,rfl,hm.skip hcond,ho,⟨hl.1,λy hy hq=>?_⟩,λ_ h=>h⟩
   rw[hl.2 y hy hq]
   by_cases e:y=v
   · subst e
     have hu:u∉rowS x y:=by
      rcases hcond with h | h | h
      · exact absurd hy h
      · exact absurd h hq
      · exact h
     congr 2
     exact ea λz hz _=>by
      have:z≠u:=λe=>hu (e ▸ hz)
      unfold dn;simp[this]
   · rw[hdn y e]
 · simp only[Bool.not_eq_true,Bool.or_eq_false_iff,Bool.not_eq_false',decide_eq_false_iff_not]at hsk
   obtain⟨⟨h1,h2⟩,h3⟩:=hsk
   subst h1
   have hi:In B v:=hb
   have hu:u∈rowS x v:=hedge.2 h3
   have hlv:=hl.2 v hi h2
   have hlf:lf (rowS x v) (In B) (λy=>y∈T\/y=u)+1=lf (rowS x v) (In B) (dn T u L v):=by
    rw[pR (pe wf v).1 hu hm.u_in.2.2 hm.u_in.2.1]
    exact ea λy _ _=>(jM hvL).symm
   have hlle:lf (rowS x v) (In B) (dn T u L v)<=16:=Nat.le_trans sO (pe wf v).2.1
   obtain⟨left',hs,hsl⟩:=cr (xs:=left) (i:=v) (lf (rowS x v) (In B) (λy=>y∈T\/y=u):Int) v0 (by omega)
   have hwrl:IntKind.i64.wrap ((lf (rowS x v) (In B) (dn T u L v):Int)-1)=(lf (rowS x v) (In B) (λy=>y∈T\/y=u):Int):=by rw[wr' (by omega) (by omega)];omega
   have hnew:idx left' v=some (lf (rowS x v) (In B) (λy=>y∈T\/y=u):Int):=by rw[cz hs,if_pos rfl]
   have hleft:∀w,In B w->w∉Q->idx left' w=some (lf (rowS x w) (In B) (dn T u (L++[v]) w):Int):=λw hw hq=>by
    rw[cz hs]
    by_cases e:w=v
    · subst e
      rw[if_pos rfl]
      congr 2
      exact ea λy _ _=>oR.symm
    · rw[if_neg e,hl.2 w hw hq,hdn w e]
   have hbeq:((lf (rowS x v) (In B) (λy=>y∈T\/y=u):Int)==0)=decide (lf (rowS x v) (In B) (λy=>y∈T\/y=u)=0):=by
    rw[vD];simp
   simp only[h2,h3,decide_false,vw,Bool.or_false,cond_false,hlv,bt,hwrl,hs,hw,rJ hw (wf.ow v w hw),hnew,hbeq,orE]
   by_cases hc:ownL x.owner v=p\/lf (rowS x v) (In B) (λy=>y∈T\/y=u)=0
   · have hc':(decide (ownL x.owner v=p)||decide (lf (rowS x v) (In B) (λy=>y∈T\/y=u)=0))=true:=by simpa using hc
     obtain⟨out',hso,hsol⟩:=cr (xs:=out) (i:=v) true v0 (by omega)
     simp only[hc',cond_true,hso,bt,app1 (show Q.length<=10000000000 by omega) (show Nat.ble 8 1024=true from rfl)]
     refine⟨_,_,_,rfl,hm.add hi h2 hu hc,⟨by omega,λy y0 y1=>?_⟩,⟨by omega,λw hw hq=>hleft w hw λh=>hq (List.mem_append_left _ h)⟩,λ_ h=>List.mem_append_left _ h⟩
     rw[cz hso]
     by_cases e:y=v
     · subst e;simp
     · rw[if_neg e,ho.2 y y0 y1];simp[e]
   · have hc':(decide (ownL x.owner v=p)||decide (lf (rowS x v) (In B) (λy=>y∈T\/y=u)=0))=false:=by simpa using hc
     rw[not_or]at hc
     simp only[hc',cond_false,bt]
     exact⟨_,_,_,rfl,hm.stay hc.1 hc.2,ho,⟨by omega,hleft⟩,λ_ h=>h⟩
end
end Go.Proofs.Ytpcjbkgbnoocaaa
set_option linter.unusedVariables false
set_option linter.unusedSimpArgs false
namespace Go.Proofs.Ytpcjbkgbnoocaaa
open Go Go.Wk Go.Proofs
def gS (x:l7Game):Par.Gm:=mkG (rowS x) (ownL x.owner) (priL x.prio)
theorem fJ {α:Type}{xs:List α}{j:Nat}{y:α}(h:xs[j]? =some y):xs.take (j+1)=xs.take j++[y]:=by rw[vG,h];rfl
theorem nL {xs:List Int}{j:Nat}{y:Int}(hn:xs.Nodup) (h:xs[j]? =some y):y∉xs.take j:=by
 have h2:=hn.sublist (List.take_sublist (j+1) xs)
 rw[fJ h,List.nodup_append]at h2
 exact λhm=>h2.2.2 y hm y (by simp) rfl
section
variable {x:l7Game}{n:Nat}(wf:WfS x n){B:List Bool}(hB:B.length=n)
include wf hB
omit wf in
theorem p6 {p:Bool}{goal:Int->Prop}{Q:List Int}(h:Cert (rowS x) (ownL x.owner) (In B) p goal Q):Q.length<=n:=eD n Q h.nd λv hv=>kX hB (h.mem v hv)
theorem ra {goal:List Bool}(hG:goal.length=n){p:Bool}(hN:Par.NoDead (gS x) (In B)):∃Q out left,cntM (dJ x B goal) B.length 0 ([],hV n false,hV n 0)=some (.inr (Q,out,left)) /\
 Cert (rowS x) (ownL x.owner) (In B) p (In goal) Q/\(∀v,In B v->In goal v->v∈Q)/\Trap (rowS x) (ownL x.owner) (In B) p Q (λ_ y=>y∈([]:List Int)) /\
 (out.length=n/\∀v:Int,0<=v->v<n->idx out v=some (decide (v∈Q)))/\(left.length=n/\∀w,In B w->w∉Q->idx left w=some (lf (rowS x w) (In B) (λy=>y∈([]:List Int)):Int)):=by
 have hn:=wf.n256
 obtain⟨s,h1,h2⟩:=bO (f:=dJ x B goal) (λj (s:List Int×List Bool×List Int)=>s.1.Nodup/\(∀v,v∈s.1↔v<(j:Int)/\In B v/\In goal v) /\
  (s.2.1.length=n/\∀v:Int,0<=v->v<n->idx s.2.1 v=some (decide (v∈s.1)))/\(s.2.2.length=n/\∀w:Int,w<(j:Int)->In B w->idx s.2.2 w=some (lf (rowS x w) (In B) (λ_=>False):Int))) B.length (s:=([],hV n false,hV n 0))
  ⟨by simp,λv=>⟨λh=>by simp at h,λ⟨h,hb,_⟩=>by have:=(kX hB hb).1;omega⟩,⟨by simp,λv v0 v1=>by
   rw[cD v0,vt,if_pos (by omega)];simp⟩,⟨by simp,λw hw hb=>by have:=(kX hB hb).1;omega⟩⟩ (λj s hj ⟨q1,q2,o,l⟩=>by
  obtain⟨Q,out,left⟩:=s
  dsimp only at q1 q2 o l
  rw[hB]at hj
  obtain⟨b,hb⟩:=ca (xs:=B) (i:=(j:Int)) (by omega) (by omega)
  obtain⟨g,hg⟩:=ca (xs:=goal) (i:=(j:Int)) (by omega) (by omega)
  have hlen:Q.length<=n:=eD n Q q1 λv hv=>kX hB ((q2 v).1 hv).2.1
  have hjQ:(j:Int)∉Q:=λh=>by have:=((q2 _).1 h).1;omega
  have hlf:=sO (row:=rowS x (j:Int)) (inn:=In B) (d:=λ_=>False)
  have hl16:=(pe wf (j:Int)).2.1
  obtain⟨left',hs,hsl⟩:=cr (xs:=left) (i:=(j:Int)) (lf (rowS x (j:Int)) (In B) (λ_=>False):Int) (by omega) (by omega)
  obtain⟨out',hso,hsol⟩:=cr (xs:=out) (i:=(j:Int)) true (by omega) (by omega)
  obtain⟨ol,hol⟩:=ca (xs:=left) (i:=(j:Int)) (by omega) (by omega)
  unfold dJ
  dsimp only
  simp only[hb,bt,hg,andE,tw wf hB (show 0<=(j:Int) by omega) (show(j:Int)<n by omega),hs,hso,hol,o.2 (j:Int) (by omega) (by omega),app1 (show Q.length<=10000000000 by omega) (show Nat.ble 8 1024=true from rfl)]
  have hleft:∀(l2:List Int),l2=(bif b then left' else left)->(l2.length=n/\∀w:Int,w<((j+1:Nat):Int)->In B w->idx l2 w=some (lf (rowS x w) (In B) (λ_=>False):Int)):=λl2 e=>by
   subst e
   cases b with
   | true=>
    refine⟨by dsimp only[cond_true];omega,λw hw hi=>?_⟩
    dsimp only[cond_true]
    rw[cz hs]
    by_cases e:w=(j:Int)
    · rw[if_pos e,e]
    · rw[if_neg e];exact l.2 w (by omega) hi
   | false=>
    refine⟨l.1,λw hw hi=>?_⟩
    by_cases e:w=(j:Int)
    · subst e;unfold In at hi;rw[hb]at hi;cases hi
    · exact l.2 w (by omega) hi
  have hin:In B (j:Int)↔b=true:=by unfold In;rw[hb];simp
  have hig:In goal (j:Int)↔g=true:=by unfold In;rw[hg];simp
  cases hbg:(b&&g) with
  | true=>
   have hb1:b=true:=by revert hbg;cases b <;> simp
   have hg1:g=true:=by revert hbg;cases b <;> simp
   subst hb1 hg1
   simp only[cond_true,bt]
   refine⟨_,rfl,?_,?_,⟨by dsimp only;omega,?_⟩,hleft _ rfl⟩
   · dsimp only
     rw[List.nodup_append]
     exact⟨q1,by simp,λa ha c hc=>by simp at hc;subst hc;exact λe=>hjQ (e ▸ ha)⟩
   · intro v
     dsimp only
     rw[vF,vy,q2 v]
     constructor
     · rintro(⟨h1,h2,h3⟩ | rfl)
       · exact⟨by omega,h2,h3⟩
       · exact⟨by omega,hin.2 rfl,hig.2 rfl⟩
     · rintro⟨h1,h2,h3⟩
       by_cases e:v=(j:Int)
       · exact .inr e
       · exact .inl ⟨by omega,h2,h3⟩
   · intro v v0 v1
     dsimp only
     rw[cz hso]
     by_cases e:v=(j:Int)
     · subst e;simp
     · rw[if_neg e,o.2 v v0 v1];simp[e]
  | false=>
   have hq:∀v,v∈Q↔v<((j+1:Nat):Int)/\In B v/\In goal v:=λv=>by
    rw[q2 v]
    constructor
    · rintro⟨h1,h2,h3⟩;exact⟨by omega,h2,h3⟩
    · rintro⟨h1,h2,h3⟩
      refine⟨?_,h2,h3⟩
      have:v≠(j:Int):=λe=>by
       subst e
       rw[hin.1 h2,hig.1 h3]at hbg
       cases hbg
      omega
   cases b with
   | true=>
    simp only[cond_true,cond_false,bt]
    exact⟨_,rfl,q1,hq,o,hleft _ rfl⟩
   | false=>
    simp only[cond_false,bt]
    exact⟨_,rfl,q1,hq,o,hleft _ rfl⟩)
 obtain⟨Q,out,left⟩:=s
 obtain⟨q1,q2,o,l⟩:=h2
 dsimp only at q1 q2 o l
 have hz:∀w,lf (rowS x w) (In B) (λy=>y∈([]:List Int))=lf (rowS x w) (In B) (λ_=>False):=λw=>ea λy _ _=>by simp
 refine⟨Q,out,left,h1,⟨q1,λv hv=>((q2 v).1 hv).2.1,λk v hk=> .inl ((q2 v).1 (it hk)).2.2⟩,λv hb hg=>(q2 v).2 ⟨by have:=kX hB hb;omega,hb,hg⟩,λv hv hq=>⟨λ_ y _ _ h=>by simp at h,λho=>?_⟩,o,l.1,λw hw hq=>?_⟩
 · obtain⟨u,e1,e2⟩:=hN v hv
   exact⟨u,e1,e2,by simp⟩
 · rw[hz];exact l.2 w (by have:=kX hB hw;omega) hw
theorem tz {goal:List Bool}(hG:goal.length=n) (p:Bool) (hN:Par.NoDead (gS x) (In B)):∃A,ft x B (b2i p) goal=some A/\A.length=n/\Par.IsAttr (gS x) (In B) p (In goal) (In A):=by
 have hn:=wf.n256
 obtain⟨Q0,out0,left0,i1,i2,i3,i4,i5,i6⟩:=ra wf hB hG (p:=p) hN
 unfold ft
 rw[hB,cO (by omega) rfl,bt,cO (by omega) rfl,bt]
 rw[hB]at i1
 rw[i1,bt,bD]
 dsimp only
 obtain⟨o,w1,w2⟩:=cm (f:=eq x B (b2i p)) (λj (s:List Int×Int×List Bool×List Int)=>s.2.1=(j:Int)/\j<=s.1.length/\Cert (rowS x) (ownL x.owner) (In B) p (In goal) s.1/\(∀v,In B v->In goal v->v∈s.1)/\Trap (rowS x) (ownL x.owner) (In B) p s.1 (λ_ y=>y∈s.1.take j) /\
  (s.2.2.1.length=n/\∀v:Int,0<=v->v<n->idx s.2.2.1 v=some (decide (v∈s.1)))/\(s.2.2.2.length=n/\∀w,In B w->w∉s.1->idx s.2.2.2 w=some (lf (rowS x w) (In B) (λy=>y∈s.1.take j):Int))) (λ_=>False)
  (λs=>∃Q,Cert (rowS x) (ownL x.owner) (In B) p (In goal) Q/\(∀v,In B v->In goal v->v∈Q)/\Trap (rowS x) (ownL x.owner) (In B) p Q (λ_ y=>y∈Q)/\(s.2.2.1.length=n/\∀v:Int,0<=v->v<n->idx s.2.2.1 v=some (decide (v∈Q)))) n (λj s ⟨a1,a2,a3,a4,a5,a6,a7⟩=>by
  obtain⟨Q,i,out,left⟩:=s
  dsimp only at a1 a2 a3 a4 a5 a6 a7
  subst a1
  have hQn:=p6 hB a3
  unfold eq
  dsimp only
  by_cases hlt:(j:Int)<(Q.length:Int)
  · have hjl:j<Q.length:=by omega
    have hu:Q[j]? =some Q[j]:=bB hjl
    have hQe:Q=Q.take j++Q[j]::Q.drop (j+1):=by rw[← List.drop_eq_getElem_cons hjl,List.take_append_drop]
    generalize Q[j]=u at hu hQe
    obtain⟨u0,u1⟩:=kX hB (a3.mem u (it hu))
    obtain⟨P,hP⟩:=ca (xs:=x.prev) u0 (by rw[wf.lv];exact u1)
    obtain⟨p1,p2,p3⟩:=wf.prev u P hP
    simp only[hlt,decide_true,cond_true,bC,hu,bt]
    have hm0:Mid (rowS x) (ownL x.owner) (In B) p (In goal) (Q.take j) u [] Q:=by
     have:=Mid.first (T:=Q.take j) (u:=u) (R:=Q.drop (j+1)) (hQe ▸ a3) (hQe ▸ a5)
     rwa [← hQe]at this
    obtain⟨oi,v1,v2⟩:=cm (f:=cW x B (b2i p) u) (λk (s:List Int×Int×List Bool×List Int)=>s.2.1=(k:Int)/\k<=P.length/\Mid (rowS x) (ownL x.owner) (In B) p (In goal) (Q.take j) u (P.take k) s.1 /\
     (s.2.2.1.length=n/\∀v:Int,0<=v->v<n->idx s.2.2.1 v=some (decide (v∈s.1)))/\(s.2.2.2.length=n/\∀w,In B w->w∉s.1->idx s.2.2.2 w=some (lf (rowS x w) (In B) (dn (Q.take j) u (P.take k) w):Int))/\(∀v∈Q,v∈s.1)) (λ_=>False)
     (λs=>Mid (rowS x) (ownL x.owner) (In B) p (In goal) (Q.take j) u P s.1/\(s.2.2.1.length=n/\∀v:Int,0<=v->v<n->idx s.2.2.1 v=some (decide (v∈s.1)))/\(s.2.2.2.length=n/\∀w,In B w->w∉s.1->idx s.2.2.2 w=some (lf (rowS x w) (In B) (dn (Q.take j) u P w):Int))/\(∀v∈Q,v∈s.1)) P.length (λk s ⟨b1,b2,b3,b4,b5,b6⟩=>by
     obtain⟨Q',i',out',left'⟩:=s
     dsimp only at b1 b2 b3 b4 b5 b6
     subst b1
     by_cases hk:k<P.length
     · have hv:P[k]? =some P[k]:=bB hk
       generalize P[k]=v at hv
       have hQ'n:=p6 hB b3.cert
       obtain⟨Q2,o2,l2,c1,c2,c3,c4,c5⟩:=qd wf hB b3 (nL p1 hv) hP hv (by omega) b4 b5
       refine⟨_,c1,by omega,rfl,by omega,?_,c3,?_,λv hv=>c5 v (b6 v hv)⟩
       · rw[fJ hv];exact c2
       · rw[fJ hv];exact c4
     · unfold cW
       rw[hP,bt]
       have:¬(k:Int)<(P.length:Int):=by omega
       dsimp only
       simp only[this,decide_false,cond_false]
       have e:P.take k=P:=List.take_of_length_le (by omega)
       rw[e]at b3 b5
       exact⟨_,rfl,b3,b4,b5,b6⟩) (2 ^ 64) 0 (Q,0,out,left) (by omega) ⟨rfl,by omega,by simpa using hm0,a6,⟨a7.1,λw hw hq=>by
        rw[a7.2 w hw hq]
        congr 2
        exact ea λy _ _=>(jM (by simp)).symm⟩,λ_ h=>h⟩ (by omega)
    match oi,v2 with
    | .inr s,⟨c1,c2,c3,c4⟩=>
     obtain⟨Q',i',out',left'⟩:=s
     dsimp only at c1 c2 c3 c4
     have hwr:IntKind.i64.wrap ((j:Int)+1)=((j+1:Nat):Int):=by rw[wr' (by omega) (by omega)];omega
     rw[v1,bt,bD,hwr]
     have htk:Q'.take (j+1)=Q.take j++[u]:=by
      obtain⟨R,e⟩:=c1.hu
      have hjl:(Q.take j).length=j:=by rw[vB];omega
      rw[e,show Q.take j++u::R=(Q.take j++[u])++R from by simp,List.take_append_of_le_length (by rw[vx,hjl];simp),List.take_of_length_le (by rw[vx,hjl];simp)]
     have hlen:j+1<=Q'.length:=by
      obtain⟨R,e⟩:=c1.hu
      have hjl:(Q.take j).length=j:=by rw[vB];omega
      rw[e,vx,hjl,vA];omega
     have hall:∀v,In B v->u∈rowS x v->v∈P:=λv hv hu=>by
      rw[p3]
      unfold rowS at hu
      cases hr:idx x.next v with
      | none=>rw[hr]at hu;simp at hu
      | some r=>
       cases hk:idx x.pick v with
       | none=>rw[hr,hk]at hu;simp at hu
       | some k=>rw[hr,hk]at hu;exact⟨r,rfl,(List.mem_filter.1 hu).1⟩
     have hjn:j<n:=by omega
     refine⟨_,rfl,hjn,rfl,hlen,c1.cert,λv hb hg=>c4 v (a4 v hb hg),?_,c2,c3.1,λw hw hq=>?_⟩
     · dsimp only
       rw[htk];exact c1.last hall
     · dsimp only
       dsimp only at hq
       rw[c3.2 w hw hq,htk]
       congr 2
       exact ea λy hy _=>by
        unfold dn
        rw[vF,vy]
        constructor
        · rintro(h | ⟨h,_⟩)
          · exact .inl h
          · exact .inr h
        · rintro(h | h)
          · exact .inl h
          · exact .inr ⟨h,hall w hw (h ▸ hy)⟩
  · simp only[hlt,decide_false,cond_false]
    rw[List.take_of_length_le (by omega)]at a5
    exact⟨_,rfl,Q,a3,a4,a5,a6⟩) (2 ^ 64) 0 (Q0,0,out0,left0) (by omega) ⟨rfl,by omega,i2,i3,by simpa using i4,i5,by simpa using i6⟩ (by omega)
 match o,w2 with
 | .inr s,⟨Q,k1,k2,k3,k4⟩=>
  rw[w1,bt,bD]
  refine⟨_,rfl,k4.1,?_⟩
  have ha:=k1.attr (pri:=priL x.prio) k2 k3
  have e:(λv=>v∈Q)=In s.2.2.1:=by
   funext v
   apply propext
   constructor
   · intro hv
     obtain⟨v0,v1⟩:=kX hB (k1.mem v hv)
     unfold In;rw[k4.2 v v0 v1];simp[hv]
   · intro hv
     have hr:=ci hv
     unfold In at hv
     rw[k4.2 v hr.1 (by omega)]at hv
     simpa using hv
  rw[← e];exact ha
end
end Go.Proofs.Ytpcjbkgbnoocaaa
set_option linter.unusedVariables false
set_option linter.unusedSimpArgs false
namespace Go.Proofs.Ytpcjbkgbnoocaaa
open Go Go.Wk Go.Proofs
structure WfI (x:solver) (n:Nat):Prop where
 n256:n<=256
 lo:x.game.Arena.Owner.length=n
 lp:x.game.Prio.length=n
 ln:x.game.Arena.Next.length=n
 lv:x.preds.length=n
 ow:∀v o,idx x.game.Arena.Owner v=some o->o=0\/o=1
 row:∀v r,idx x.game.Arena.Next v=some r->r.length<=16/\r.Nodup/\∀u∈r,0<=u/\u<n
 prev:∀u P,idx x.preds u=some P->P.Nodup/\P.length<=100000/\∀v,v∈P↔∃r,idx x.game.Arena.Next v=some r/\u∈r
def cK (a:Arena) (v:Int):List Int:=(idx a.Next v).getD []
def gI (g:Parity):Par.Gm:=mkG (cK g.Arena) (ownL g.Arena.Owner) (priL g.Prio)
theorem eO {a:Arena}{v:Int}{r:List Int}(hr:idx a.Next v=some r):cK a v=r:=by unfold cK;rw[hr];rfl
theorem uF {O:List Int}{v o:Int}{p:Bool}(h:idx O v=some o) (ho:o=0\/o=1):(o !=b2i p)=decide (¬ownL O v=p):=by
 have:=rJ (p:=p) h ho
 rw[bne,this]
 by_cases h:ownL O v=p <;> simp[h]
section
variable {x:solver}{n:Nat}(wf:WfI x n){B:List Bool}(hB:B.length=n)
include wf
theorem rS (v:Int):(cK x.game.Arena v).Nodup/\(cK x.game.Arena v).length<=16/\∀u∈cK x.game.Arena v,0<=u/\u<n:=by
 unfold cK
 cases hr:idx x.game.Arena.Next v with
 | none=>simp
 | some r=>
  obtain⟨h1,h2,h3⟩:=wf.row v r hr
  exact⟨h2,h1,h3⟩
include hB
omit wf in
theorem ny {v:Int}(h:In B v):0<=v/\v<n:=by
 have:=ci h
 rw[hB]at this
 exact this
theorem tJ {v:Int}{r left:List Int}(hr:idx x.game.Arena.Next v=some r) (hl:left.length=n) (h0:idx left v=some 0):∃left',cntM (cS B v r) r.length 0 left=some (.inr left')/\left'.length=n /\
 idx left' v=some (lf r (In B) (λ_=>False):Int)/\∀w,w≠v->idx left' w=idx left w:=by
 classical
 obtain⟨r1,r2,r3⟩:=wf.row v r hr
 have hv:=ci h0
 obtain⟨s,h1,h2⟩:=bO (f:=cS B v r) (λj (s:List Int)=>s.length=n/\idx s v=some (((r.take j).filter (λy=>decide (In B y))).length:Int)/\∀w,w≠v->idx s w=idx left w) r.length (s:=left) ⟨hl,by simpa using h0,λ_ _=>rfl⟩ (λj s hj ⟨q1,q2,q3⟩=>by
  have hu:r[j]? =some r[j]:=bB hj
  generalize r[j]=u at hu
  obtain⟨u0,u1⟩:=r3 u (it hu)
  obtain⟨b,hb⟩:=ca (xs:=B) u0 (by omega)
  have hle:((r.take j).filter (λy=>decide (In B y))).length<=j:=Nat.le_trans (List.length_filter_le _ _) (by rw[vB];omega)
  obtain⟨s',hs,hsl⟩:=cr (xs:=s) (i:=v) (((r.take j).filter (λy=>decide (In B y))).length+1:Int) (by omega) (by omega)
  unfold cS
  simp only[bC,hu,bt,hb,q2]
  rw[wr' (by omega) (by omega)]
  have htk:(r.take (j+1)).filter (λy=>decide (In B y))=(r.take j).filter (λy=>decide (In B y))++(if b then[u] else[]):=by
   rw[fJ hu,List.filter_append];congr 1
   have:In B u↔b=true:=by unfold In;rw[hb];simp
   cases b with
   | true=>simp[this]
   | false=>simp[this]
  cases b with
  | true=>
   simp only[cond_true,hs,bt]
   refine⟨_,rfl,by omega,?_,λw hw=>?_⟩
   · rw[cz hs,if_pos rfl,htk];simp
   · rw[cz hs,if_neg hw];exact q3 w hw
  | false=>
   simp only[cond_false,bt]
   exact⟨_,rfl,q1,by rw[htk];simpa using q2,q3⟩)
 rw[List.take_length]at h2
 refine⟨s,h1,h2.1,?_,h2.2.2⟩
 rw[h2.2.1]
 unfold lf
 congr 3
 apply List.filter_congr
 intro u _
 simp
def LI (x:solver) (B:List Bool) (left:List Int) (w:Int) (d:Int->Prop):Prop:=idx left w=some (lf (cK x.game.Arena w) (In B) d:Int)\/(idx left w=some 0/\∀y∈cK x.game.Arena w,In B y->¬d y)
omit wf hB in
theorem LI.congr {left:List Int}{w:Int}{d d':Int->Prop}(h:LI x B left w d) (e:∀y∈cK x.game.Arena w,In B y->(d y↔d' y)):LI x B left w d':=by
 rcases h with h | ⟨h1,h2⟩
 · left;rw[h];congr 2;exact ea e
 · right;exact⟨h1,λy hy hi hd=>h2 y hy hi ((e y hy hi).2 hd)⟩
theorem qo {goal:Int->Prop}{p:Bool}{T L Q R:List Int}{u v:Int}{out:List Bool}{left:List Int}(hm:Mid (cK x.game.Arena) (ownL x.game.Arena.Owner) (In B) p goal T u L Q) (hR:Q=T++u::R) (hvL:v∉L)
 {P:List Int} {j:Nat} (hP:idx x.preds u=some P) (hj:P[j]? =some v) (hQ:Q.length<=100000)
 (ho:out.length=n/\∀v:Int,0<=v->v<n->idx out v=some (decide (v∈Q))) (hl:left.length=n/\∀v,In B v->v∉Q->¬ownL x.game.Arena.Owner v=p->LI x B left v (dn T u L v)):
 ∃R' out' left',eI x (b2i p) B P (j:Int) (R,out,left)=some (.inr (.inr (R',out',left')))/\Mid (cK x.game.Arena) (ownL x.game.Arena.Owner) (In B) p goal T u (L++[v]) (T++u::R') /\
  (out'.length=n/\∀v:Int,0<=v->v<n->idx out' v=some (decide (v∈T++u::R')))/\(left'.length=n/\∀w,In B w->w∉T++u::R'->¬ownL x.game.Arena.Owner w=p->LI x B left' w (dn T u (L++[v]) w))/\(∀v∈Q,v∈T++u::R'):=by
 have hn:=wf.n256
 obtain⟨p1,p2,p3⟩:=wf.prev u P hP
 obtain⟨r,hr,hur⟩:=(p3 v).1 (it hj)
 have hre:=eO hr
 obtain⟨v0,v1⟩:=ci hr
 rw[wf.ln]at v1
 obtain⟨b,hb⟩:=ca (xs:=B) v0 (by omega)
 obtain⟨w,hw⟩:=ca (xs:=x.game.Arena.Owner) v0 (by rw[wf.lo];exact v1)
 have hRl:R.length<=100000:=by
  have:=congrArg List.length hR
  rw[vx,vA]at this;omega
 unfold eI
 rw[bC,hj,bt,ho.2 v v0 v1,bt,hb]
 dsimp only
 simp only[bt,orE]
 have hadd:∀left2:List Int,(left2.length=n/\∀w,w≠v->idx left2 w=idx left w)->In B v->v∉Q->(ownL x.game.Arena.Owner v=p\/lf (cK x.game.Arena v) (In B) (λy=>y∈T\/y=u)=0) ->
  ∃R' out' left',(br (setI out v true) λy59=>br (appS 8 R [v]) λx114=>(some (.inr (.inr (x114,y59,left2))):Option (List Bool⊕((List Int×List Bool×List Int)⊕(List Int×List Bool×List Int)))))=some (.inr (.inr (R',out',left')))/\Mid (cK x.game.Arena) (ownL x.game.Arena.Owner) (In B) p goal T u (L++[v]) (T++u::R') /\
  (out'.length=n/\∀v:Int,0<=v->v<n->idx out' v=some (decide (v∈T++u::R')))/\(left'.length=n/\∀w,In B w->w∉T++u::R'->¬ownL x.game.Arena.Owner w=p->LI x B left' w (dn T u (L++[v]) w))/\(∀v∈Q,v∈T++u::R'):=λleft2 ⟨l1,l2⟩ hi hq hc=>by
  obtain⟨out',hso,hsol⟩:=cr (xs:=out) (i:=v) true v0 (by omega)
  have hQ':T++u::(R++[v])=Q++[v]:=by rw[hR];simp
  refine⟨R++[v],out',left2,by rw[hso,bt,app1 (by omega) rfl,bt],?_,⟨by omega,λy y0 y1=>?_⟩,⟨l1,λw hw hq' hop=>?_⟩,λy hy=>by rw[hQ'];exact List.mem_append_left _ hy⟩
  · rw[hQ'];exact hm.add hi hq (hre ▸ hur) hc
  · rw[cz hso,hQ']
    by_cases e:y=v
    · subst e;simp
    · rw[if_neg e,ho.2 y y0 y1];simp[e]
  · rw[hQ',vF,vy,not_or]at hq'
    have:=hl.2 w hw hq'.1 hop
    unfold LI at this ⊢
    rw[l2 w hq'.2]
    exact LI.congr (left:=left) this λy _ _=>(fd hq'.2).symm
 by_cases hsk:(decide (v∈Q) || !b)=true
 · rw[hsk,cond_true]
   have hcond:¬In B v\/v∈Q\/u∉cK x.game.Arena v:=by
    simp only[Bool.or_eq_true,Bool.not_eq_true',decide_eq_true_eq]at hsk
    rcases hsk with h | h
    · exact .inr (.inl h)
    · left;unfold In;rw[hb,h];simp
   subst hR
   refine⟨R,out,left,rfl,hm.skip hcond,ho,⟨hl.1,λy hy hq hop=>?_⟩,λ_ h=>h⟩
   refine LI.congr (hl.2 y hy hq hop) λz hz _=>?_
   by_cases e:y=v
   · subst e
     rcases hcond with h | h | h
     · exact absurd hy h
     · exact absurd h hq
     · have:z≠u:=λe=>h (e ▸ hz)
       unfold dn;simp[this]
   · exact(fd e).symm
 · simp only[Bool.not_eq_true,Bool.or_eq_false_iff,Bool.not_eq_false',decide_eq_false_iff_not]at hsk
   obtain⟨h2,h1⟩:=hsk
   subst h1
   have hi:In B v:=hb
   have hu:u∈cK x.game.Arena v:=hre ▸ hur
   simp only[h2,decide_false,vw,Bool.or_false,cond_false,hw,bt,uF hw (wf.ow v w hw)]
   by_cases hop:ownL x.game.Arena.Owner v=p
   · have:decide (¬ownL x.game.Arena.Owner v=p)=false:=by simp[hop]
     simp only[this,cond_false]
     exact hadd left ⟨hl.1,λ_ _=>rfl⟩ hi h2 (.inl hop)
   · have:decide (¬ownL x.game.Arena.Owner v=p)=true:=by simp[hop]
     simp only[this,cond_true]
     have hlf:lf (cK x.game.Arena v) (In B) (λy=>y∈T\/y=u)+1=lf (cK x.game.Arena v) (In B) (dn T u L v):=by
      rw[pR (rS wf v).1 hu hm.u_in.2.2 hm.u_in.2.1]
      exact ea λy _ _=>(jM hvL).symm
     have hlle:lf (cK x.game.Arena v) (In B) (dn T u L v)<=16:=Nat.le_trans sO (rS wf v).2.1
     -- the count, made or known
     have hcount:∃l7,(br (idx left v) λx69=>(bif (x69==0) then
      br (idx x.game.Arena.Next v) λx79=>
      br (cntM (cS B v x79) x79.length 0 left) λq9=>
      aft (λr=>none) (λs10=>
       some (s10:(List Int))) q9
      else
       some left))=some l7/\l7.length=n/\idx l7 v=some (lf (cK x.game.Arena v) (In B) (dn T u L v):Int)/\∀w,w≠v->idx l7 w=idx left w:=by
      have hz:=hl.2 v hi h2 hop
      by_cases h0:idx left v=some 0
      · obtain⟨l7,k1,k2,k3,k4⟩:=tJ wf hB hr hl.1 h0
        refine⟨l7,?_,k2,?_,k4⟩
        · simp only[h0,bt,hr,k1,bD]
          rfl
        · rw[k3,hre]
          congr 2
          rcases hz with h | ⟨_,h⟩
          · rw[h0]at h
            have:=Option.some.inj h
            omega
          · exact ea λy hy hi=>⟨λh=>h.elim,λhd=>h y (by rw[hre];exact hy) hi hd⟩
      · rcases hz with h | ⟨h,_⟩
        · refine⟨left,?_,hl.1,h,λ_ _=>rfl⟩
          have:((lf (cK x.game.Arena v) (In B) (dn T u L v):Int)==0)=false:=by
           have:lf (cK x.game.Arena v) (In B) (dn T u L v)≠0:=λe=>h0 (by rw[h,e];rfl)
           simp[this]
          simp only[h,bt,this,cond_false]
        · exact absurd h h0
     obtain⟨l7,c1,c2,c3,c4⟩:=hcount
     have hsplit:∀{β:Type} (f:List Int->Option β),(br (idx left v) λx69=>br (bif (x69==0) then
      br (idx x.game.Arena.Next v) λx79=>
      br (cntM (cS B v x79) x79.length 0 left) λq9=>
      aft (λr=>none) (λs10=>
       some (s10:(List Int))) q9
      else
       some left) f)=br (some l7) f:=λf=>by rw[← c1];cases idx left v <;> rfl
     rw[hsplit,bt,c3,bt,bt]
     have hwrl:IntKind.i64.wrap ((lf (cK x.game.Arena v) (In B) (dn T u L v):Int)-1)=(lf (cK x.game.Arena v) (In B) (λy=>y∈T\/y=u):Int):=by rw[wr' (by omega) (by omega)];omega
     obtain⟨l8,hs,hsl⟩:=cr (xs:=l7) (i:=v) (lf (cK x.game.Arena v) (In B) (λy=>y∈T\/y=u):Int) v0 (by omega)
     have hnew:idx l8 v=some (lf (cK x.game.Arena v) (In B) (λy=>y∈T\/y=u):Int):=by rw[cz hs,if_pos rfl]
     have hoth:∀w,w≠v->idx l8 w=idx left w:=λw hw=>by rw[cz hs,if_neg hw,c4 w hw]
     rw[hwrl,hs,bt,hnew,bt]
     by_cases hc:lf (cK x.game.Arena v) (In B) (λy=>y∈T\/y=u)=0
     · have:decide ((0:Int)<(lf (cK x.game.Arena v) (In B) (λy=>y∈T\/y=u):Int))=false:=by simp[hc]
       rw[this,cond_false]
       exact hadd l8 ⟨by omega,hoth⟩ hi h2 (.inr hc)
     · have:decide ((0:Int)<(lf (cK x.game.Arena v) (In B) (λy=>y∈T\/y=u):Int))=true:=by simp;omega
       rw[this,cond_true]
       subst hR
       refine⟨R,out,l8,rfl,hm.stay hop hc,ho,⟨by omega,λw hw hq hop'=>?_⟩,λ_ h=>h⟩
       by_cases e:w=v
       · subst e
         left
         rw[hnew]
         congr 2
         exact ea λy _ _=>oR.symm
       · have:=hl.2 w hw hq hop'
         unfold LI at this ⊢
         rw[hoth w e]
         exact LI.congr (left:=left) this λy _ _=>(fd e).symm
end
end Go.Proofs.Ytpcjbkgbnoocaaa
set_option linter.unusedVariables false
set_option linter.unusedSimpArgs false
namespace Go.Proofs.Ytpcjbkgbnoocaaa
open Go Go.Wk Go.Proofs
def hasN (N:List (List Int)) (u:Int) (v:Nat):Bool:=match N[v]? with
 | some r=>decide (u∈r)
 | none=>false
def prevL (N:List (List Int)) (u:Int) (j:Nat):List Int:=((List.range j).filter (hasN N u)).map Int.ofNat
theorem ro (N:List (List Int)) (u:Int) (j:Nat):prevL N u (j+1)=prevL N u j++(if hasN N u j=true then[(j:Int)] else[]):=by
 unfold prevL
 rw[List.range_succ,List.filter_append,List.map_append]
 congr 1
 by_cases h:hasN N u j=true
 · rw[if_pos h,List.filter_cons,if_pos h];rfl
 · rw[if_neg h,List.filter_cons,if_neg h];rfl
theorem ma:∀{xs:List Nat},xs.Nodup->(xs.map Int.ofNat).Nodup
 | [],_=>by simp
 | x::xs,h=>by
  obtain⟨h1,h2⟩:=List.nodup_cons.1 h
  rw[List.map_cons,List.nodup_cons]
  refine⟨λhm=>?_,ma h2⟩
  obtain⟨y,hy,e⟩:=List.mem_map.1 hm
  have:y=x:=Int.ofNat.inj e
  exact h1 (this ▸ hy)
theorem nh (N:List (List Int)) (u:Int) (j:Nat):(prevL N u j).Nodup:=by
 unfold prevL
 exact ma (List.nodup_range.filter _)
theorem mO (N:List (List Int)) (u:Int) (j:Nat):(prevL N u j).length<=j:=by
 unfold prevL
 rw[vI]
 exact Nat.le_trans (List.length_filter_le _ _) (by rw[List.length_range];omega)
theorem oN {N:List (List Int)}{u v:Int}{n:Nat}(hn:N.length=n):v∈prevL N u n↔∃r,idx N v=some r/\u∈r:=by
 unfold prevL
 rw[List.mem_map]
 constructor
 · rintro⟨w,hw,rfl⟩
   obtain⟨h1,h2⟩:=List.mem_filter.1 hw
   unfold hasN at h2
   rw[List.mem_range]at h1
   have e:N[w]? =some N[w]:=bB (by omega)
   rw[e]at h2
   exact⟨N[w],by rw[show(Int.ofNat w)=(w:Int) from rfl,bC,e],by simpa using h2⟩
 · rintro⟨r,hr,hu⟩
   obtain⟨h0,h1⟩:=ci hr
   obtain⟨w,hw⟩:=dr h0
   subst hw
   rw[bC]at hr
   refine⟨w,List.mem_filter.2 ⟨List.mem_range.2 (by omega),?_⟩,rfl⟩
   unfold hasN
   rw[hr]
   simpa using hu
def PrevM (N:List (List Int)) (n j:Nat) (row:List Int) (i:Nat) (t:List (List Int)):Prop:=t.length=n/\∀u:Int,0<=u->u<n->idx t u=some (prevL N u j++(if u∈row.take i then[(j:Int)] else[]))
def PrevT (N:List (List Int)) (n j:Nat) (t:List (List Int)):Prop:=t.length=n/\∀u:Int,0<=u->u<n->idx t u=some (prevL N u j)
theorem PrevT.zero {N:List (List Int)}{n:Nat}:PrevT N n 0 (hV n []):=⟨by simp,λu u0 u1=>by
 rw[cD u0,vt,if_pos (by omega)];rfl⟩
theorem PrevT.first {N:List (List Int)}{n j:Nat}{t:List (List Int)}(h:PrevT N n j t) (row:List Int):PrevM N n j row 0 t:=⟨h.1,λu u0 u1=>by rw[h.2 u u0 u1];simp⟩
theorem PrevM.last {N:List (List Int)}{n j:Nat}{row:List Int}{t:List (List Int)}(hr:N[j]? =some row) (h:PrevM N n j row row.length t):PrevT N n (j+1) t:=⟨h.1,λu u0 u1=>by
 rw[h.2 u u0 u1,ro,List.take_length]
 unfold hasN
 rw[hr]
 by_cases hu:u∈row <;> simp[hu]⟩
theorem PrevM.step {N:List (List Int)}{n j i:Nat}{row:List Int}{t:List (List Int)}{u:Int}(h:PrevM N n j row i t) (hu:row[i]? =some u) (hn:row.Nodup) (u0:0<=u) (u1:u<n):
 ∃old,idx t u=some old/\old.length<=j+1/\∃t',setI t u (old++[(j:Int)])=some t'/\PrevM N n j row (i+1) t':=by
 refine⟨_,h.2 u u0 u1,?_,?_⟩
 · have:=mO N u j
   rw[vx]
   split
   · simp;omega
   · simp;omega
 · have hnot:u∉row.take i:=by
    have h2:=hn.sublist (List.take_sublist (i+1) row)
    rw[vG,hu,List.nodup_append]at h2
    exact λhm=>h2.2.2 u hm u (by simp) rfl
   obtain⟨t',h1,h2⟩:=cr (xs:=t) (i:=u) (prevL N u j++(if u∈row.take i then[(j:Int)] else[])++[(j:Int)]) u0 (by rw[h.1];exact u1)
   refine⟨t',h1,by rw[h2];exact h.1,λw w0 w1=>?_⟩
   have htk:row.take (i+1)=row.take i++[u]:=by rw[vG,hu];rfl
   rw[cz h1,htk]
   by_cases e:w=u
   · subst e
     rw[if_pos rfl,if_neg hnot]
     simp
   · rw[if_neg e,h.2 w w0 w1]
     congr 2
     simp[e]
def cu (B:List Bool) (j:Nat):List Int:=((List.range j).filter (λv=>B[v]?.getD false)).map Int.ofNat
theorem qk {B:List Bool}{j:Nat}{b:Bool}(h:B[j]? =some b):cu B (j+1)=cu B j++(if b=true then[(j:Int)] else[]):=by
 unfold cu
 rw[List.range_succ,List.filter_append,List.map_append]
 congr 1
 rw[List.filter_cons,h]
 cases b <;> rfl
theorem kd (B:List Bool) (j:Nat):(cu B j).Nodup:=by
 unfold cu
 exact ma (List.nodup_range.filter _)
theorem ku (B:List Bool) (j:Nat):(cu B j).length<=j:=by
 unfold cu
 rw[vI]
 exact Nat.le_trans (List.length_filter_le _ _) (by rw[List.length_range];omega)
theorem co {B:List Bool}{v:Int}:v∈cu B B.length↔In B v:=by
 unfold cu In
 rw[List.mem_map]
 constructor
 · rintro⟨w,hw,rfl⟩
   obtain⟨h1,h2⟩:=List.mem_filter.1 hw
   rw[List.mem_range]at h1
   rw[show(Int.ofNat w)=(w:Int) from rfl,bC]
   have e:B[w]? =some B[w]:=bB h1
   rw[e]at h2 ⊢
   simpa using h2
 · intro h
   obtain⟨h0,h1⟩:=ci h
   obtain⟨w,hw⟩:=dr h0
   subst hw
   rw[bC]at h
   exact⟨w,List.mem_filter.2 ⟨List.mem_range.2 (by omega),by rw[h];rfl⟩,rfl⟩
theorem oJ {ys:List Int}:∀{xs:List Int},xs.Nodup->(∀x∈xs,x∈ys)->xs.length<=ys.length:=by
 induction ys with
 | nil=>
  intro xs _ h
  cases xs with
  | nil=>simp
  | cons x xs=>exact absurd (h x (List.mem_cons_self ..)) (by simp)
 | cons y ys ih=>
  intro xs hn h
  by_cases hm:y∈xs
  · have h1:=List.length_erase_of_mem hm
    have h2:=ih (xs:=xs.erase y) (hn.erase _) (λx hx=>by
     rw[hn.mem_erase_iff]at hx
     exact(List.mem_cons.1 (h x hx.2)).resolve_left hx.1)
    rw[vA]
    omega
  · have:=ih (xs:=xs) hn (λx hx=>(List.mem_cons.1 (h x hx)).resolve_left λe=>hm (e ▸ hx))
    rw[vA]
    omega
def cnt (B:List Bool):Nat:=(cu B B.length).length
theorem oU (B:List Bool):cnt B<=B.length:=ku _ _
theorem t6 {A B:List Bool}(h:∀v,In A v->In B v):cnt A<=cnt B:=by
 unfold cnt
 exact oJ (kd _ _) λv hv=>co.2 (h v (co.1 hv))
theorem o6 {A B:List Bool}(h:∀v,In A v->In B v){w:Int}(hw:In B w) (hn:¬In A w):cnt A<cnt B:=by
 have hs:∀v∈w::cu A A.length,v∈cu B B.length:=λv hv=>by
  rcases List.mem_cons.1 hv with rfl | hv
  · exact co.2 hw
  · exact co.2 (h v (co.1 hv))
 have hd:(w::cu A A.length).Nodup:=List.nodup_cons.2 ⟨λhm=>hn (co.1 hm),kd _ _⟩
 have:=oJ hd hs
 rw[vA]at this
 exact this
theorem nN {B:List Bool}(h:cnt B=0) (v:Int):¬In B v:=λhv=>by
 have:=co.2 hv
 unfold cnt at h
 rw[List.length_eq_zero_iff]at h
 rw[h]at this
 cases this
end Go.Proofs.Ytpcjbkgbnoocaaa
set_option linter.unusedVariables false
set_option linter.unusedSimpArgs false
namespace Go.Proofs.Ytpcjbkgbnoocaaa
open Go Go.Wk Go.Proofs
theorem fill {ρ α:Type}{f:Int->List α->Option (ρ⊕(List α⊕List α))}(val:Nat->α) (n:Nat){s0:List α}(h0:s0.length=n)
 (step:∀(j:Nat) s,j<n->s.length=n->f (j:Int) s=br (idx s (j:Int)) λ_=>br (setI s (j:Int) (val j)) λy=>some (.inr (.inr y))):
 ∃s,cntM f n 0 s0=some (.inr s)/\s.length=n/\∀j:Nat,j<n->idx s (j:Int)=some (val j):=by
 obtain⟨s,h1,h2,h3⟩:=bO (f:=f) (λj (s:List α)=>s.length=n/\∀i:Nat,i<j->idx s (i:Int)=some (val i)) n (s:=s0) ⟨h0,λi hi=>absurd hi (Nat.not_lt_zero i)⟩ (λj s hj ⟨q1,q2⟩=>by
  obtain⟨old,ho⟩:=ca (xs:=s) (i:=(j:Int)) (by omega) (by omega)
  obtain⟨s',hs,hl⟩:=cr (xs:=s) (i:=(j:Int)) (val j) (by omega) (by omega)
  rw[step j s hj q1,ho,bt,hs,bt]
  refine⟨_,rfl,by omega,λi hi=>?_⟩
  rw[cz hs]
  by_cases e:(i:Int)=(j:Int)
  · have:i=j:=by omega
    subst this
    rw[if_pos rfl]
  · rw[if_neg e];exact q2 i (by omega))
 exact⟨s,h1,h2,h3⟩
theorem fillB {ρ:Type}{f:Int->List Bool->Option (ρ⊕(List Bool⊕List Bool))}(P:Int->Prop) [∀v,Decidable (P v)] (n:Nat){s0:List Bool}(h0:s0.length=n)
 (step:∀(j:Nat) s,j<n->s.length=n->f (j:Int) s=br (idx s (j:Int)) λ_=>br (setI s (j:Int) (decide (P (j:Int)))) λy=>some (.inr (.inr y))) (hP:∀v,P v->0<=v/\v<n):
 ∃s,cntM f n 0 s0=some (.inr s)/\s.length=n/\∀v,In s v↔P v:=by
 obtain⟨s,h1,h2,h3⟩:=fill (f:=f) (λj=>decide (P (j:Int))) n h0 step
 refine⟨s,h1,h2,λv=>?_⟩
 constructor
 · intro h
   obtain⟨v0,v1⟩:=ci h
   obtain⟨j,hj⟩:=dr v0
   subst hj
   have:=h3 j (by omega)
   unfold In at h
   rw[h]at this
   exact of_decide_eq_true (Option.some.inj this).symm
 · intro h
   obtain⟨v0,v1⟩:=hP v h
   obtain⟨j,hj⟩:=dr v0
   subst hj
   unfold In
   rw[h3 j (by omega),decide_eq_true h]
instance (B:List Bool) (v:Int):Decidable (In B v):=by unfold In;exact inferInstance
theorem uQ {B:List Bool}{v:Int}{b:Bool}(h:idx B v=some b):b=decide (In B v):=by
 have:In B v↔b=true:=by unfold In;rw[h];simp
 rw[vD];simp[this]
theorem en {B:List Bool}{v:Int}(h0:0<=v) (h1:v<B.length):idx B v=some (decide (In B v)):=by
 obtain⟨b,hb⟩:=ca (xs:=B) h0 h1
 rw[← uQ hb];exact hb
theorem ip {B:List Bool}{n:Nat}(hB:B.length=n){v:Int}(h:In B v):0<=v/\v<n:=by
 have:=ci h
 rw[hB]at this
 exact this
end Go.Proofs.Ytpcjbkgbnoocaaa
set_option linter.unusedVariables false
set_option linter.unusedSimpArgs false
namespace Go.Proofs.Ytpcjbkgbnoocaaa
open Go Go.Wk Go.Proofs
theorem jN {B:List Bool}(hl:B.length<=1000000):gZ B=some (cu B B.length):=by
 obtain⟨s,h1,h2⟩:=bO (f:=kW B) (λj (s:List Int)=>s=cu B j) B.length (s:=[]) rfl (λj s hj hs=>by
  subst hs
  have hb:B[j]? =some B[j]:=bB hj
  generalize B[j]=b at hb
  have hlen:=ku B j
  unfold kW
  rw[bC,hb,bt,qk hb]
  cases b with
  | true=>
   simp only[cond_true]
   rw[app1 (by omega) rfl,bt,bt]
   exact⟨_,rfl,rfl⟩
  | false=>
   simp only[cond_false,bt]
   exact⟨_,rfl,by simp⟩)
 unfold gZ
 rw[h1,bt,bD,h2]
theorem j7 {A B:List Bool}{n:Nat}(hA:A.length=n) (hB:B.length=n) (hn:n<=256):∃R,fx A B=some R/\R.length=n/\∀v,In R v↔In A v/\¬In B v:=by
 unfold fx
 rw[hA,cO (by omega) rfl,bt]
 obtain⟨R,h1,h2,h3⟩:=fillB (f:=ki A B) (λv=>In A v/\¬In B v) n (s0:=hV n false) (by simp) (λj s hj hs=>by
  unfold ki
  rw[en (B:=A) (by omega) (by omega),bt,en (B:=B) (by omega) (by omega),bt,andE,bt]
  congr 1
  funext _
  congr 2
  rw[vD];simp) (λv hv=>ip hA hv.1)
 rw[h1,bt,bD]
 exact⟨R,rfl,h2,h3⟩
end Go.Proofs.Ytpcjbkgbnoocaaa
set_option linter.unusedVariables false
set_option linter.unusedSimpArgs false
namespace Go.Proofs.Ytpcjbkgbnoocaaa
open Go Go.Wk Go.Proofs
section
variable {x:solver}{n:Nat}(wf:WfI x n){B:List Bool}(hB:B.length=n)
include wf hB
omit wf in
theorem oI {p:Bool}{goal:Int->Prop}{Q:List Int}(h:Cert (cK x.game.Arena) (ownL x.game.Arena.Owner) (In B) p goal Q):Q.length<=n:=eD n Q h.nd λv hv=>ny hB (h.mem v hv)
theorem sB {goal:List Bool}(hG:goal.length=n) (p:Bool) (hN:Par.NoDead (gI x.game) (In B)) (hsub:∀v,In goal v->In B v):∃A,gO x (b2i p) B goal=some A/\A.length=n/\Par.IsAttr (gI x.game) (In B) p (In goal) (In A):=by
 have hn:=wf.n256
 unfold gO
 rw[appL (by rw[vC];omega) rfl,bt,hB,cO (by omega) rfl,bt,jN (by omega),bt,List.nil_append]
 have hgm:∀v,v∈cu goal goal.length↔In goal v:=λv=>co
 have hc0:Cert (cK x.game.Arena) (ownL x.game.Arena.Owner) (In B) p (In goal) (cu goal goal.length):=⟨kd _ _,λv hv=>hsub v ((hgm v).1 hv),λk v hk=> .inl ((hgm v).1 (it hk))⟩
 have ht0:Trap (cK x.game.Arena) (ownL x.game.Arena.Owner) (In B) p (cu goal goal.length) (λ_ y=>y∈([]:List Int)):=λv hv hq=>⟨λ_ y _ _ h=>by simp at h,λho=>by
  obtain⟨u,e1,e2⟩:=hN v hv
  exact⟨u,e1,e2,by simp⟩⟩
 obtain⟨o,w1,w2⟩:=cm (f:=gJ x (b2i p) B) (λj (s:List Int×List Bool×List Int)=>∃T Q,Q=T++s.1/\T.length=j/\Cert (cK x.game.Arena) (ownL x.game.Arena.Owner) (In B) p (In goal) Q/\(∀v,In goal v->v∈Q)/\Trap (cK x.game.Arena) (ownL x.game.Arena.Owner) (In B) p Q (λ_ y=>y∈T) /\
  (s.2.1.length=n/\∀v:Int,0<=v->v<n->idx s.2.1 v=some (decide (v∈Q)))/\(s.2.2.length=n/\∀w,In B w->w∉Q->¬ownL x.game.Arena.Owner w=p->LI x B s.2.2 w (λy=>y∈T))) (λ_=>False)
  (λs=>∃Q,Cert (cK x.game.Arena) (ownL x.game.Arena.Owner) (In B) p (In goal) Q/\(∀v,In goal v->v∈Q)/\Trap (cK x.game.Arena) (ownL x.game.Arena.Owner) (In B) p Q (λ_ y=>y∈Q)/\(s.2.1.length=n/\∀v:Int,0<=v->v<n->idx s.2.1 v=some (decide (v∈Q)))) n (λj s ⟨T,Q,a1,a2,a3,a4,a5,a6,a7⟩=>by
  obtain⟨R,out,left⟩:=s
  dsimp only at a1 a6 a7
  have hQn:=oI hB a3
  unfold gJ
  dsimp only
  cases R with
  | nil=>
   rw[List.append_nil]at a1
   subst a1
   simp only[vC,Int.natCast_zero,Int.lt_irrefl,decide_false,cond_false]
   exact⟨_,rfl,Q,a3,a4,a5,a6⟩
  | cons u R=>
   have hlt:(0:Int)<((u::R).length:Int):=by simp only[vA];omega
   obtain⟨u0,u1⟩:=ny hB (a3.mem u (by rw[a1];simp))
   obtain⟨P,hP⟩:=ca (xs:=x.preds) u0 (by rw[wf.lv];exact u1)
   obtain⟨p1,p2,p3⟩:=wf.prev u P hP
   have e2:idx (u::R) 0=some u:=rfl
   have e3:subS (u::R) 1 ((u::R).length:Int)=some R:=by
    unfold subS
    rw[if_pos ⟨by omega,by simp only[vA];omega,by omega⟩,Int.toNat_natCast,List.take_length]
    rfl
   have hm0:Mid (cK x.game.Arena) (ownL x.game.Arena.Owner) (In B) p (In goal) T u [] Q:=by
    have:=Mid.first (T:=T) (u:=u) (R:=R) (a1 ▸ a3) (a1 ▸ a5)
    rwa [← a1]at this
   obtain⟨s',v1,v2⟩:=bO (f:=eI x (b2i p) B P) (λk (s:List Int×List Bool×List Int)=>Mid (cK x.game.Arena) (ownL x.game.Arena.Owner) (In B) p (In goal) T u (P.take k) (T++u::s.1) /\
    (s.2.1.length=n/\∀v:Int,0<=v->v<n->idx s.2.1 v=some (decide (v∈T++u::s.1)))/\(s.2.2.length=n/\∀w,In B w->w∉T++u::s.1->¬ownL x.game.Arena.Owner w=p->LI x B s.2.2 w (dn T u (P.take k) w))/\(∀v∈Q,v∈T++u::s.1)) P.length (s:=(R,out,left))
    ⟨by dsimp only;rw[← a1];simpa using hm0,by dsimp only;rw[← a1];exact a6,⟨a7.1,λw hw hq ho=>by
     dsimp only at hq
     rw[← a1]at hq
     exact LI.congr (a7.2 w hw hq ho) λy _ _=>(jM (by simp)).symm⟩,λv hv=>by dsimp only;rw[← a1];exact hv⟩ (λk s hk ⟨b3,b4,b5,b6⟩=>by
    obtain⟨R',out',left'⟩:=s
    dsimp only at b3 b4 b5 b6
    have hv:P[k]? =some P[k]:=bB hk
    generalize P[k]=v at hv
    have hQ'n:=oI hB b3.cert
    obtain⟨R2,o2,l2,c1,c2,c3,c4,c5⟩:=qo wf hB b3 rfl (nL p1 hv) hP hv (by omega) b4 b5
    refine⟨_,c1,?_,c3,?_,λv hv=>c5 v (b6 v hv)⟩
    · rw[fJ hv];exact c2
    · rw[fJ hv];exact c4)
   obtain⟨R',out',left'⟩:=s'
   obtain⟨c1,c2,c3,c4⟩:=v2
   rw[List.take_length]at c1 c3
   dsimp only at c1 c2 c3 c4
   simp only[hlt,decide_true,cond_true,e2,e3,bt,hP,v1,bD]
   have hall:∀v,In B v->u∈cK x.game.Arena v->v∈P:=λv hv hu=>by
    rw[p3]
    unfold cK at hu
    cases hr:idx x.game.Arena.Next v with
    | none=>rw[hr]at hu;simp at hu
    | some r=>rw[hr]at hu;exact⟨r,rfl,hu⟩
   have hjn:j<n:=by
    have:=congrArg List.length a1
    rw[vx,vA]at this
    omega
   refine⟨_,rfl,hjn,T++[u],T++u::R',by simp,by rw[vx,a2];rfl,c1.cert,λv hg=>c4 v (a4 v hg),c1.last hall,c2,c3.1,λw hw hq ho=>?_⟩
   refine LI.congr (c3.2 w hw hq ho) λy hy _=>?_
   unfold dn
   rw[vF,vy]
   constructor
   · rintro(h | ⟨h,_⟩)
     · exact .inl h
     · exact .inr h
   · rintro(h | h)
     · exact .inl h
     · exact .inr ⟨h,hall w hw (h ▸ hy)⟩) (2 ^ 64) 0 (cu goal goal.length,goal,hV n 0) (by omega) ⟨[],cu goal goal.length,rfl,rfl,hc0,λv hg=>(hgm v).2 hg,ht0,⟨hG,λv v0 v1=>by
     dsimp only
     rw[en (B:=goal) v0 (by omega)]
     congr 1
     exact decide_eq_decide.2 (hgm v).symm⟩,⟨by simp,λw hw hq ho=> .inr ⟨by
     have:=ny hB hw
     dsimp only
     rw[cD this.1,vt,if_pos (by omega)],λy _ _ h=>by simp at h⟩⟩⟩ (by omega)
 match o,w2 with
 | .inr s,⟨Q,k1,k2,k3,k4⟩=>
  rw[w1,bt,bD]
  refine⟨_,rfl,k4.1,?_⟩
  have ha:=k1.attr (pri:=priL x.game.Prio) (λv _ hg=>k2 v hg) k3
  have e:(λv=>v∈Q)=In s.2.1:=by
   funext v
   apply propext
   constructor
   · intro hv
     obtain⟨v0,v1⟩:=ny hB (k1.mem v hv)
     unfold In;rw[k4.2 v v0 v1];simp[hv]
   · intro hv
     have hr:=ci hv
     unfold In at hv
     rw[k4.2 v hr.1 (by omega)]at hv
     simpa using hv
  rw[← e];exact ha
end
end Go.Proofs.Ytpcjbkgbnoocaaa
set_option linter.unusedVariables false
set_option linter.unusedSimpArgs false
namespace Go.Proofs.Ytpcjbkgbnoocaaa.Par
open Classical
variable {G:Gm}{X Y:Int->Prop}{p:Bool}{S S' A A2 W W2 D:Int->Prop}
theorem IsAttr.congrS (h:IsAttr G X p S A) (e:∀v,X v->(S v↔S' v)):IsAttr G X p S' A:=by
 obtain⟨r,hr⟩:=h.rank
 refine⟨h.sub,λv hx hs=>h.base v hx ((e v hx).2 hs),⟨r,λv hv=>?_⟩,h.mine,h.yours⟩
 rcases hr v hv with k | k
 · exact .inl ((e v (h.sub v hv)).1 k)
 · exact .inr k
structure Red (G:Gm) (X Y:Int->Prop) (p:Bool):Prop where
 sub:∀v,Y v->X v
 mine:∀D,Dom G Y p D->Dom G X p D
 yours:∀D,Dom G Y (!p) D->Dom G X (!p) (λv=>Mn X Y v\/D v)
theorem Red.refl:Red G X X p:=⟨λ_ h=>h,λ_ h=>h,λD h=>h.congr λv=>⟨.inr,λh=>h.resolve_left λh=>h.2 h.1⟩⟩
theorem Red.step (h:Red G X Y p) (hA:IsAttr G Y p S A) (hW:Sol G (Mn Y A) p W) (h2:IsAttr G Y (!p) (Mn (Mn Y A) W) A2):Red G X (Mn Y A2) p:=by
 have hL:Dom G Y (!p) (Mn (Mn Y A) W):=Dom.lift hA hW.yours
 refine⟨λv hv=>h.sub v hv.1,λD hD=>h.mine D ?_,λD hD=>(h.yours _ (Dom.grow hL h2 hD)).congr λv=>?_⟩
 · have:=Dom.lift (p:= !p) (D:=D) h2 (by rwa [Bool.not_not])
   rwa [Bool.not_not]at this
 · constructor
   · rintro(⟨k1,k2⟩ | k | k)
     · exact .inl ⟨k1,λk=>k2 k.1⟩
     · exact .inl ⟨h.sub v (h2.sub v k),λk'=>k'.2 k⟩
     · exact .inr k
   · rintro(⟨k1,k2⟩ | k)
     · by_cases hy:Y v
       · by_cases ha:A2 v
         · exact .inr (.inl ha)
         · exact absurd ⟨hy,ha⟩ k2
       · exact .inl ⟨k1,hy⟩
     · exact .inr (.inr k)
theorem Red.sol (h:Red G X Y p) (hY:Sol G Y p W):Sol G X p W:=⟨λv hv=>h.sub v (hY.sub v hv),h.mine W hY.mine,(h.yours _ hY.yours).congr λv=>by
 constructor
 · rintro(⟨k1,k2⟩ | k)
   · exact⟨k1,λk=>k2 (hY.sub v k)⟩
   · exact⟨h.sub v k.1,k.2⟩
 · rintro⟨k1,k2⟩
   by_cases hy:Y v
   · exact .inr ⟨hy,k2⟩
   · exact .inl ⟨k1,hy⟩⟩
theorem Sol.all (h:Dom G Y p Y):Sol G Y p Y:=⟨λ_ h=>h,h,Dom.empty.congr λv=>⟨λh=>h.elim,λh=>h.2 h.1⟩⟩
theorem Sol.none (h:∀v,¬X v):Sol G X p W->∀v,¬W v:=λhs v hv=>h v (hs.sub v hv)
theorem Sol.void (h:∀v,¬X v):Sol G X p X:=Sol.all (Dom.empty.congr λv=>⟨λh=>h.elim,λhx=>h v hx⟩)
theorem Sol.top {d:Int}(hN:NoDead G X) (hd:∀v,X v->G.pri v<=d) (hp:oddP d=p) (hA:IsAttr G X p (λv=>G.pri v=d) A) (hW:Sol G (Mn X A) p W) (hE:∀v,Mn X A v->W v):Sol G X p X:=
 Sol.all (Dom.top hN hd hp hA (hW.mine.congr λv=>⟨hW.sub v,hE v⟩))
theorem Sol.asP {q:Bool}(h:Sol G X q W) (p:Bool):Sol G X p (λv=>X v/\(W v↔p=q)):=by
 by_cases e:p=q
 · subst e
   exact h.congr λv=>⟨λhv=>⟨h.sub v hv,⟨λ_=>rfl,λ_=>hv⟩⟩,λhv=>hv.2.2 rfl⟩
 · have:p= !q:=by revert e;cases p <;> cases q <;> simp
   subst this
   exact h.flip.congr λv=>⟨λhv=>⟨hv.1,⟨λhw=>absurd hw hv.2,λe'=>absurd e' e⟩⟩,λhv=>⟨hv.1,λhw=>e (hv.2.1 hw)⟩⟩
end Go.Proofs.Ytpcjbkgbnoocaaa.Par
set_option linter.unusedVariables false
set_option linter.unusedSimpArgs false
namespace Go.Proofs.Ytpcjbkgbnoocaaa
open Go Go.Wk Go.Proofs
theorem mC {P:List Int}{v:Int}(h0:0<=v) (h1:v<P.length):idx P v=some (priL P v):=by
 obtain⟨q,hq⟩:=ca (xs:=P) h0 h1
 unfold priL;rw[hq];rfl
def PriOk (P:List Int):Prop:=∀v q,idx P v=some q->0<=q/\q<=40
theorem qI {d:Int}(h:0<=d):Int.tmod d 2=b2i (Par.oddP d):=by
 rw[Int.tmod_eq_emod_of_nonneg h]
 unfold Par.oddP b2i
 by_cases e:d % 2=1
 · simp[e]
 · simp[e];omega
theorem my (p:Bool):(b2i p==0)= !p:=by cases p <;> rfl
theorem tm (p:Bool):(b2i p==1)=p:=by cases p <;> rfl
theorem lb (p q:Bool):(b2i p==b2i q)=(p==q):=by cases p <;> cases q <;> rfl
theorem mT (p:Bool):IntKind.i64.wrap (1-b2i p)=b2i (!p):=by cases p <;> decide
theorem oD {A B:List Bool}{n:Nat}(hA:A.length=n) (hB:B.length=n) (hn:n<=256):∃R,jT A B=some R/\R.length=n/\∀v,In R v↔In A v/\¬In B v:=by
 unfold jT
 rw[hA,cO (by omega) rfl,bt]
 obtain⟨R,h1,h2,h3⟩:=fillB (f:=gW A B) (λv=>In A v/\¬In B v) n (s0:=hV n false) (by simp) (λj s hj hs=>by
  unfold gW
  rw[en (B:=A) (by omega) (by omega),bt,en (B:=B) (by omega) (by omega),bt,andE,bt]
  congr 1
  funext _
  congr 2
  rw[vD];simp) (λv hv=>ip hA hv.1)
 rw[h1,bt,bD]
 exact⟨R,rfl,h2,h3⟩
section
variable {x:l7Game}{n:Nat}(wf:WfS x n) (hp:PriOk x.prio)
include wf hp
theorem ug {B:List Bool}(hB:B.length=n):∃d:Int,mK x B=some d/\d<=40/\(∀v,In B v->priL x.prio v<=d)/\((d= -1/\∀v,¬In B v)\/(0<=d/\∃v,In B v/\priL x.prio v=d)):=by
 have hlp:=wf.lp
 obtain⟨s,h1,h2,h3,h4⟩:=bO (f:=iQ x B) (λj (s:Int)=>s<=40/\(∀v,v<(j:Int)->In B v->priL x.prio v<=s)/\((s= -1/\∀v,v<(j:Int)->¬In B v)\/(0<=s/\∃v,In B v/\priL x.prio v=s))) B.length (s:=(-1:Int)) ⟨by omega,λv hv hi=>by
  have:=ip hB hi;omega,.inl ⟨rfl,λv hv hi=>by have:=ip hB hi;omega⟩⟩ (λj s hj ⟨q1,q2,q3⟩=>by
  rw[hB]at hj
  unfold iQ
  have hq:=mC (P:=x.prio) (v:=(j:Int)) (by omega) (by omega)
  obtain⟨d0,d1⟩:=hp _ _ hq
  rw[en (B:=B) (by omega) (by omega),bt,hq]
  by_cases hi:In B (j:Int)
  · simp only[hi,decide_true,cond_true,bt]
    unfold eJ
    by_cases hlt:priL x.prio (j:Int)<s
    · simp only[hlt,decide_true,cond_true,bt]
      refine⟨_,rfl,q1,λv hv hi'=>?_,?_⟩
      · by_cases e:v=(j:Int)
        · subst e;omega
        · exact q2 v (by omega) hi'
      · rcases q3 with ⟨e,_⟩ | h
        · omega
        · exact .inr h
    · simp only[hlt,decide_false,cond_false,bt]
      refine⟨_,rfl,d1,λv hv hi'=>?_,.inr ⟨d0,(j:Int),hi,rfl⟩⟩
      by_cases e:v=(j:Int)
      · subst e;omega
      · have:=q2 v (by omega) hi';omega
  · simp only[hi,decide_false,cond_false,bt]
    refine⟨_,rfl,q1,λv hv hi'=>?_,?_⟩
    · by_cases e:v=(j:Int)
      · subst e;exact absurd hi' hi
      · exact q2 v (by omega) hi'
    · rcases q3 with ⟨e,h⟩ | h
      · refine .inl ⟨e,λv hv hi'=>?_⟩
        by_cases e:v=(j:Int)
        · subst e;exact hi hi'
        · exact h v (by omega) hi'
      · exact .inr h)
 unfold mK
 rw[h1,bt,bD]
 refine⟨s,rfl,h2,λv hv=>h3 v (by have:=ip hB hv;omega) hv,?_⟩
 rcases h4 with ⟨e,h⟩ | h
 · exact .inl ⟨e,λv hv=>h v (by have:=ip hB hv;omega) hv⟩
 · exact .inr h
omit wf hp in
theorem ul {rest low:List Bool}{d:Int}{p:Bool}(hd:Int.tmod d 2=b2i p) (hr:rest.length=n) (hl:low.length=n):∃L b,cntM (gt d rest low) n 0 (false,hV n false)=some (.inr (b,L))/\L.length=n/\(∀v,In L v↔In rest v/\(In low v↔p=true))/\(b=true↔∃v,In L v):=by
 let val:Nat->Bool:=λj=>decide (In rest (j:Int)/\(In low (j:Int)↔p=true))
 obtain⟨s,h1,h2,h3,h4⟩:=bO (f:=gt d rest low) (λj (s:Bool×List Bool)=>s.2.length=n/\(∀i:Nat,i<j->idx s.2 (i:Int)=some (val i))/\(s.1=true↔∃i:Nat,i<j/\val i=true)) n (s:=(false,hV n false)) ⟨by simp,λi hi=>absurd hi (Nat.not_lt_zero i),by simp⟩ (λj s hj ⟨q1,q2,q3⟩=>by
  obtain⟨b,L⟩:=s
  dsimp only at q1 q2 q3
  obtain⟨old,ho⟩:=ca (xs:=L) (i:=(j:Int)) (by omega) (by omega)
  obtain⟨L',hs,hl'⟩:=cr (xs:=L) (i:=(j:Int)) (val j) (by omega) (by omega)
  have hv:(decide (In rest (j:Int))&&(decide (In low (j:Int)) != !p))=val j:=by
   show _=decide (In rest (j:Int)/\(In low (j:Int)↔p=true))
   rw[vD]
   cases p <;> simp
  have hnew:idx L' (j:Int)=some (val j):=by rw[cz hs,if_pos rfl]
  unfold gt
  dsimp only
  rw[en (B:=rest) (by omega) (by omega),bt,en (B:=low) (by omega) (by omega),bt,andE,bt,hd,my,hv,ho,bt,hs,bt,hnew,bt,orE,bt]
  refine⟨_,rfl,by dsimp only;omega,λi hi=>?_,?_⟩
  · dsimp only
    rw[cz hs]
    by_cases e:(i:Int)=(j:Int)
    · have:i=j:=by omega
      subst this
      rw[if_pos rfl]
    · rw[if_neg e];exact q2 i (by omega)
  · dsimp only
    rw[Bool.or_eq_true,q3]
    constructor
    · rintro(⟨i,hi,h⟩ | h)
      · exact⟨i,by omega,h⟩
      · exact⟨j,by omega,h⟩
    · rintro⟨i,hi,h⟩
      by_cases e:i=j
      · subst e;exact .inr h
      · exact .inl ⟨i,by omega,h⟩)
 obtain⟨b,L⟩:=s
 dsimp only at h2 h3 h4
 have hIn:∀v,In L v↔In rest v/\(In low v↔p=true):=λv=>by
  constructor
  · intro h
    obtain⟨v0,v1⟩:=ci h
    obtain⟨j,hj⟩:=dr v0
    subst hj
    have:=h3 j (by omega)
    unfold In at h
    rw[h]at this
    exact of_decide_eq_true (Option.some.inj this).symm
  · intro h
    obtain⟨v0,v1⟩:=ip hr h.1
    obtain⟨j,hj⟩:=dr v0
    subst hj
    unfold In
    rw[h3 j (by omega)]
    congr 1
    exact decide_eq_true h
 refine⟨L,b,h1,h2,hIn,?_⟩
 rw[h4]
 constructor
 · rintro⟨i,hi,h⟩
   exact⟨(i:Int),(hIn _).2 (of_decide_eq_true h)⟩
 · rintro⟨v,hv⟩
   obtain⟨v0,v1⟩:=ip h2 hv
   obtain⟨j,hj⟩:=dr v0
   subst hj
   exact⟨j,by omega,decide_eq_true ((hIn _).1 hv)⟩
theorem uf:∀(k:Nat) (B:List Bool) (f:Nat),B.length=n->Par.NoDead (gS x) (In B)->cnt B<=k->k<f->∃R,ji f x B=some R/\R.length=n/\Par.Sol (gS x) (In B) false (In R):=by
 have hn:=wf.n256
 intro k
 induction k with
 | zero=>
  intro B f hB hN hk hf
  obtain⟨f,rfl⟩:∃g,f=g+1:=⟨f-1,by omega⟩
  show ∃R,gF (ji f) x B=some R/\_
  unfold gF
  obtain⟨d,t1,t2,t3,t4⟩:=ug wf hp hB
  have hno:=nN (B:=B) (by omega)
  rcases t4 with ⟨e,_⟩ | ⟨_,v,hv,_⟩
  · subst e
    rw[t1,bt,hB,cO (by omega) rfl,bt]
    refine⟨_,rfl,by simp,(Par.Sol.void hno).congr λv=>⟨λh=>absurd h (hno v),λh=>?_⟩⟩
    have hr:=ci h
    unfold In at h
    rw[cD hr.1,vt]at h
    split at h <;> simp at h
  · exact absurd hv (hno v)
 | succ k ih=>
  intro B f hB hN hk hf
  obtain⟨f,rfl⟩:∃g,f=g+1:=⟨f-1,by omega⟩
  show ∃R,gF (ji f) x B=some R/\_
  unfold gF
  obtain⟨d,t1,t2,t3,t4⟩:=ug wf hp hB
  rcases t4 with ⟨e,hno⟩ | ⟨hd0,w,hw,hwd⟩
  · subst e
    rw[t1,bt,hB,cO (by omega) rfl,bt]
    refine⟨_,rfl,by simp,(Par.Sol.void hno).congr λv=>⟨λh=>absurd h (hno v),λh=>?_⟩⟩
    have hr:=ci h
    unfold In at h
    rw[cD hr.1,vt]at h
    split at h <;> simp at h
  · have hneg:decide (d<0)=false:=by simp;omega
    have hwho:=qI hd0
    generalize hpe:Par.oddP d=p at hwho
    rw[t1,bt,hB,cO (by omega) rfl,bt]
    simp only[hneg,cond_false,bt]
    obtain⟨goal,g1,g2,g3⟩:=fillB (f:=iM x B d) (λv=>In B v/\priL x.prio v=d) n (s0:=hV n false) (by simp) (λj s hj hs=>by
     unfold iM
     rw[en (B:=B) (by omega) (by omega),bt,mC (P:=x.prio) (by omega) (by rw[wf.lp];omega),bt,andE,bt]
     congr 1
     funext _
     congr 2
     rw[vD];simp) (λv hv=>ip hB hv.1)
    rw[g1,bt,bD,hwho]
    obtain⟨A,a1,a2,a3⟩:=tz wf hB g2 p hN
    have hA:Par.IsAttr (gS x) (In B) p (λv=>(gS x).pri v=d) (In A):=a3.congrS λv hv=>by rw[g3];exact⟨λh=>h.2,λh=>⟨hv,h⟩⟩
    obtain⟨rest,r1,r2,r3⟩:=oD hB a2 hn
    have hX1:∀v,Par.Mn (In B) (In A) v↔In rest v:=λv=>(r3 v).symm
    have e1:Par.Mn (In B) (In A)=In rest:=funext λv=>propext (hX1 v)
    have hN1:Par.NoDead (gS x) (In rest):=e1 ▸ hN.less hA
    have hc1:cnt rest<cnt B:=o6 (λv hv=>((r3 v).1 hv).1) hw λh=>((r3 w).1 h).2 (a3.base w hw ((g3 w).2 ⟨hw,hwd⟩))
    obtain⟨low,l1,l2,l3⟩:=ih rest f r2 hN1 (by omega) (by omega)
    obtain⟨L,b,m1,m2,m3,m4⟩:=ul hwho r2 l2
    simp only[a1,bt,r1,l1,m1,bD]
    have hW:=l3.asP p
    have hLe:∀v,In L v↔Par.Mn (In rest) (λv=>In rest v/\(In low v↔p=false)) v:=λv=>by
     rw[m3]
     unfold Par.Mn
     by_cases h1:In rest v <;> by_cases h2:In low v <;> cases p <;> simp[h1,h2]
    have eL:Par.Mn (In rest) (λv=>In rest v/\(In low v↔p=false))=In L:=funext λv=>propext (hLe v).symm
    cases hb:b with
    | false=>
     simp only[Bool.not_false,cond_true]
     have hno:∀v,¬In L v:=λv hv=>by
      have:=m4.2 ⟨v,hv⟩
      rw[hb]at this;cases this
     obtain⟨R,o1,o2,o3⟩:=fillB (f:=jc B d) (λv=>In B v/\p=false) n (s0:=hV n false) (by simp) (λj s hj hs=>by
      unfold jc
      rw[en (B:=B) (by omega) (by omega),bt,andE,bt,hwho,my]
      congr 1
      funext _
      congr 2
      rw[vD];simp) (λv hv=>ip hB hv.1)
     rw[o1,bt,bD]
     refine⟨R,rfl,o2,?_⟩
     have hS:Par.Sol (gS x) (In B) p (In B):=Par.Sol.top hN t3 hpe hA (e1.symm ▸ hW) λv hv=>by
      have hv:=(hX1 v).1 hv
      apply Classical.byContradiction
      intro hc
      exact hno v ((hLe v).2 ⟨hv,λh=>hc ⟨(hX1 v).2 hv,h.2⟩⟩)
     refine(hS.asP false).congr λv=>?_
     rw[o3]
     constructor
     · rintro⟨k1,k2⟩;exact⟨k1,(k2.1 k1).symm⟩
     · rintro⟨k1,k2⟩;exact⟨k1,λ_=>k2.symm,λ_=>k1⟩
    | true=>
     simp only[vw,cond_false]
     obtain⟨w2,hw2⟩:=m4.1 hb
     obtain⟨A2,b1,b2,b3⟩:=tz wf hB m2 (!p) hN
     obtain⟨rest2,c1,c2,c3⟩:=oD hB b2 hn
     have e2:Par.Mn (In B) (In A2)=In rest2:=funext λv=>propext (c3 v).symm
     have hN2:Par.NoDead (gS x) (In rest2):=e2 ▸ hN.less b3
     have hw2B:In B w2:=((r3 w2).1 ((m3 w2).1 hw2).1).1
     have hc2:cnt rest2<cnt B:=o6 (λv hv=>((c3 v).1 hv).1) hw2B λh=>((c3 w2).1 h).2 (b3.base w2 hw2B hw2)
     obtain⟨again,d1,d2,d3⟩:=ih rest2 f c2 hN2 (by omega) (by omega)
     rw[mT]
     simp only[b1,bt,c1,d1]
     obtain⟨R,o1,o2,o3⟩:=fillB (f:=iV d A2 again) (λv=>In again v\/(In A2 v/\p=true)) n (s0:=hV n false) (by simp) (λj s hj hs=>by
      unfold iV
      rw[en (B:=again) (by omega) (by omega),bt,en (B:=A2) (by omega) (by omega),bt,andE,bt,orE,bt,hwho,tm]
      congr 1
      funext _
      congr 2
      rw[vD];simp) (λv hv=>by
       rcases hv with h | h
       · exact ip d2 h
       · exact ip b2 h.1)
     rw[o1,bt,bD]
     refine⟨R,rfl,o2,?_⟩
     have hRed:Par.Red (gS x) (In B) (Par.Mn (In B) (In A2)) p:=Par.Red.refl.step hA (e1.symm ▸ hW) (by rw[e1,eL];exact b3)
     have hS:=hRed.sol (e2.symm ▸ d3.asP p)
     refine(hS.asP false).congr λv=>?_
     rw[o3]
     have k1:In again v->In rest2 v:=d3.sub v
     have k2:In A2 v->In B v:=b3.sub v
     have k3:=c3 v
     by_cases h1:In B v <;> by_cases h2:In A2 v <;> by_cases h3:In again v <;> cases hpp:p <;> simp[h1,h2]at k1 k2 k3 <;> simp[h1,h2,h3,k3] <;> simp_all
end
end Go.Proofs.Ytpcjbkgbnoocaaa
set_option linter.unusedVariables false
set_option linter.unusedSimpArgs false
namespace Go.Proofs.Ytpcjbkgbnoocaaa
open Go Go.Wk Go.Proofs
theorem n7 {B:List Bool}:∃b,cC B true=some b/\(b=true↔∃v,In B v):=by
 unfold cC gp
 obtain⟨o,h1,h2⟩:=qq (f:=db B true) (λj (_:Unit)=>∀v,v<(j:Int)->¬In B v) (λr=>0<=r/\∃v,In B v) (λ_=>False) B.length (s:=()) (λv hv hi=>by have:=ci hi;omega) (λj s hj hi=>by
  unfold db
  rw[en (B:=B) (by omega) (by omega),bt]
  by_cases h:In B (j:Int)
  · simp only[h,decide_true,BEq.rfl,cond_true]
    exact⟨_,rfl,by omega,_,h⟩
  · have:(true==decide (In B (j:Int)))=false:=by simp[h]
    simp only[this,cond_false]
    refine⟨_,rfl,λv hv hi'=>?_⟩
    by_cases e:v=(j:Int)
    · subst e;exact h hi'
    · exact hi v (by omega) hi')
 match o,h2 with
 | .inl r,⟨h0,hv⟩=>
  rw[h1,bt]
  exact⟨_,rfl,λ_=>hv,λ_=>decide_eq_true h0⟩
 | .inr _,h2=>
  have h2:=h2.resolve_right id
  rw[h1,bt,bD]
  refine⟨_,rfl,λh=>absurd h (by decide),λ⟨v,hv⟩=>absurd hv (h2 v (by have:=ci hv;omega))⟩
section
variable {x:solver}{n:Nat}(wf:WfI x n) (hp:PriOk x.game.Prio)
include wf hp
theorem vk {B:List Bool}(hB:B.length=n){w:Int}(hw:In B w):∃d:Int,oO x.game (cu B B.length)=some d/\0<=d/\(∀v,In B v->priL x.game.Prio v<=d)/\∃v,In B v/\priL x.game.Prio v=d:=by
 have hlp:=wf.lp
 obtain⟨s,h1,h2,h3⟩:=bO (f:=mb x.game (cu B B.length)) (λj (s:Int)=>(∀v∈(cu B B.length).take j,priL x.game.Prio v<=s)/\((s= -1/\j=0)\/(0<=s/\∃v,In B v/\priL x.game.Prio v=s))) (cu B B.length).length (s:=(-1:Int)) ⟨λv hv=>by simp at hv,.inl ⟨rfl,rfl⟩⟩ (λj s hj ⟨q2,q3⟩=>by
  have hu:(cu B B.length)[j]? =some (cu B B.length)[j]:=bB hj
  generalize(cu B B.length)[j]=u at hu
  have hi:=co.1 (it hu)
  obtain⟨u0,u1⟩:=ip hB hi
  have hq:=mC (P:=x.game.Prio) (v:=u) (by omega) (by omega)
  obtain⟨d0,d1⟩:=hp _ _ hq
  unfold mb
  rw[bC,hu,bt,hq,bt,fJ hu]
  refine⟨_,rfl,λv hv=>?_,.inr ?_⟩
  · rcases vF.1 hv with hv | hv
    · have:=q2 v hv
      split <;> omega
    · rw[vy]at hv
      subst hv
      split <;> omega
  · by_cases hlt:s<priL x.game.Prio u
    · rw[if_pos hlt];exact⟨d0,u,hi,rfl⟩
    · rw[if_neg hlt]
      rcases q3 with ⟨e,_⟩ | h
      · omega
      · exact h)
 unfold oO
 rw[h1,bt,bD]
 rw[List.take_length]at h2
 have hm:=co.2 hw
 rcases h3 with ⟨_,e⟩ | ⟨h0,h4⟩
 · rw[List.length_eq_zero_iff]at e
   rw[e]at hm
   cases hm
 · exact⟨s,rfl,h0,λv hv=>h2 v (co.2 hv),h4⟩
theorem vb:∀(k:Nat) (B:List Bool) (f:Nat),B.length=n->Par.NoDead (gI x.game) (In B)->cnt B<=k->k<f->∃R q,eN f x B=some (R,b2i q)/\R.length=n/\Par.Sol (gI x.game) (In B) q (In R):=by
 have hn:=wf.n256
 intro k
 induction k with
 | zero=>
  intro B f hB hN hk hf
  obtain⟨f,rfl⟩:∃g,f=g+1:=⟨f-1,by omega⟩
  show ∃R q,er (eN f) x B=some (R,b2i q)/\_
  unfold er
  have h0:cnt B=0:=by omega
  have hno:=nN h0
  rw[jN (by omega),bt]
  have e:((cu B B.length).length:Int)=0:=by
   unfold cnt at h0;omega
  rw[e]
  exact⟨B,false,rfl,hB,Par.Sol.void hno⟩
 | succ k ih=>
  intro B f hB hN hk hf
  obtain⟨f,rfl⟩:∃g,f=g+1:=⟨f-1,by omega⟩
  show ∃R q,er (eN f) x B=some (R,b2i q)/\_
  unfold er
  by_cases h0:cnt B=0
  · have hno:=nN h0
    rw[jN (by omega),bt]
    have e:((cu B B.length).length:Int)=0:=by
     unfold cnt at h0;omega
    rw[e]
    exact⟨B,false,rfl,hB,Par.Sol.void hno⟩
  · have hw:∃w,In B w:=by
     apply Classical.byContradiction
     intro hc
     apply h0
     unfold cnt
     rw[List.length_eq_zero_iff]
     cases hm:cu B B.length with
     | nil=>rfl
     | cons v vs=>exact absurd ⟨v,co.1 (by rw[hm];exact List.mem_cons_self ..)⟩ hc
    obtain⟨w,hw⟩:=hw
    obtain⟨d,t1,hd0,t3,wt,hwt,hwd⟩:=vk wf hp hB hw
    have hne:((((cu B B.length).length:Int))==0)=false:=by
     unfold cnt at h0
     have:((cu B B.length).length:Int)≠0:=by omega
     simpa using this
    have hwho:=qI hd0
    generalize hpe:Par.oddP d=p at hwho
    rw[jN (by omega),bt,hne,cond_false,t1,bt,appL (by rw[vC];omega) rfl,bt,List.nil_append]
    obtain⟨o,w1,w2⟩:=cm (f:=ie (eN f) x B d) (λj (now:List Bool)=>now.length=n/\Par.Red (gI x.game) (In B) (In now) p/\Par.NoDead (gI x.game) (In now)/\(cnt now<cnt B\/∀v,In B v->In now v)/\cnt now+j<=cnt B)
     (λr=>∃R,r=(R,b2i p)/\R.length=n/\Par.Sol (gI x.game) (In B) p (In R)) (λ_=>False) (cnt B) (λj now ⟨q1,q2,q3,q4,q5⟩=>by
     unfold ie
     rw[hB,cO (by omega) rfl,bt]
     obtain⟨goal,g1,g2,g3⟩:=fillB (f:=io x d now) (λv=>In now v/\priL x.game.Prio v=d) n (s0:=hV n false) (by simp) (λj s hj hs=>by
      unfold io
      rw[en (B:=now) (by omega) (by omega),bt,mC (P:=x.game.Prio) (by omega) (by rw[wf.lp];omega),bt,andE,bt]
      congr 1
      funext _
      congr 2
      rw[vD];simp) (λv hv=>ip q1 hv.1)
     rw[List.length_replicate,g1,bt,bD,hwho]
     obtain⟨A,a1,a2,a3⟩:=sB wf q1 g2 p q3 λv hv=>((g3 v).1 hv).1
     have hA:Par.IsAttr (gI x.game) (In now) p (λv=>(gI x.game).pri v=d) (In A):=a3.congrS λv hv=>by rw[g3];exact⟨λh=>h.2,λh=>⟨hv,h⟩⟩
     obtain⟨rest,r1,r2,r3⟩:=j7 q1 a2 hn
     have hX1:∀v,Par.Mn (In now) (In A) v↔In rest v:=λv=>(r3 v).symm
     have e1:Par.Mn (In now) (In A)=In rest:=funext λv=>propext (hX1 v)
     have hN1:Par.NoDead (gI x.game) (In rest):=e1 ▸ q3.less hA
     have hcn:cnt rest<=cnt now:=t6 λv hv=>((r3 v).1 hv).1
     have hc1:cnt rest<cnt B:=by
      rcases q4 with h | h
      · omega
      · have hwn:=h wt hwt
        have:=o6 (λv hv=>((r3 v).1 hv).1) hwn λh=>((r3 wt).1 h).2 (a3.base wt hwn ((g3 wt).2 ⟨hwn,hwd⟩))
        omega
     obtain⟨W,q,l1,l2,l3⟩:=ih rest f r2 hN1 (by omega) (by omega)
     simp only[a1,bt,r1,l1,lb]
     have hW:=l3.asP p
     -- what is lost
     have hlost:∃L,(bif q==p then br (fx rest W) λx80=>some (x80:List Bool) else some W)=some L/\L.length=n/\∀v,In L v↔Par.Mn (In rest) (λv=>In rest v/\(In W v↔p=q)) v:=by
      by_cases e:q=p
      · subst e
        obtain⟨L,m1,m2,m3⟩:=j7 r2 l2 hn
        refine⟨L,by rw[m1,show(q==q)=true from by simp];rfl,m2,λv=>?_⟩
        rw[m3]
        unfold Par.Mn
        by_cases h1:In rest v <;> by_cases h2:In W v <;> simp[h1,h2]
      · have hb:(q==p)=false:=by simpa using e
        refine⟨W,by rw[hb];rfl,l2,λv=>?_⟩
        have:=l3.sub v
        unfold Par.Mn
        have e':¬p=q:=λh=>e h.symm
        by_cases h1:In rest v <;> by_cases h2:In W v <;> simp[h1,h2,e']at this ⊢
     obtain⟨L,m1,m2,m3⟩:=hlost
     have eL:Par.Mn (In rest) (λv=>In rest v/\(In W v↔p=q))=In L:=funext λv=>propext (m3 v).symm
     obtain⟨b,c1,c2⟩:=n7 (B:=L)
     simp only[m1,bt,c1]
     cases hb:b with
     | false=>
      simp only[Bool.not_false,cond_true]
      have hno:∀v,¬In L v:=λv hv=>by
       have:=c2.2 ⟨v,hv⟩
       rw[hb]at this;cases this
      refine⟨_,rfl,now,rfl,q1,q2.sol (Par.Sol.top q3 (λv hv=>t3 v (q2.sub v hv)) hpe hA (e1.symm ▸ hW) λv hv=>?_)⟩
      have hv':=(hX1 v).1 hv
      apply Classical.byContradiction
      intro hc
      exact hno v ((m3 v).2 ⟨hv',λh=>hc ⟨hv,h.2⟩⟩)
     | true=>
      simp only[vw,cond_false]
      obtain⟨w2,hw2⟩:=c2.1 hb
      have hLn:∀v,In L v->In now v:=λv hv=>((r3 v).1 ((m3 v).1 hv).1).1
      obtain⟨A2,b1,b2,b3⟩:=sB wf q1 m2 (!p) q3 hLn
      obtain⟨now2,n1,n2,n3⟩:=j7 q1 b2 hn
      have e2:Par.Mn (In now) (In A2)=In now2:=funext λv=>propext (n3 v).symm
      have hN2:Par.NoDead (gI x.game) (In now2):=e2 ▸ q3.less b3
      have hc2:cnt now2<cnt now:=o6 (λv hv=>((n3 v).1 hv).1) (hLn w2 hw2) λh=>((n3 w2).1 h).2 (b3.base w2 (hLn w2 hw2) hw2)
      have hRed:Par.Red (gI x.game) (In B) (In now2) p:=by
       have:=q2.step hA (e1.symm ▸ hW) (by rw[e1,eL];exact b3)
       rwa [e2]at this
      obtain⟨b',c1',c2'⟩:=n7 (B:=now2)
      rw[mT]
      simp only[b1,bt,n1,c1']
      cases hb':b' with
      | false=>
       simp only[Bool.not_false,cond_true]
       refine⟨_,rfl,now2,rfl,n2,hRed.sol (Par.Sol.void λv hv=>?_)⟩
       have:=c2'.2 ⟨v,hv⟩
       rw[hb']at this;cases this
      | true=>
       simp only[vw,cond_false]
       exact⟨_,rfl,by omega,n2,hRed,hN2,.inl (by omega),by omega⟩) (2 ^ 64) 0 B (by have:=oU B;omega) ⟨hB,Par.Red.refl,hN,.inr λ_ h=>h,by omega⟩ (by omega)
    match o,w2 with
    | .inl r,⟨R,k1,k2,k3⟩=>
     subst k1
     rw[w1,bt]
     exact⟨R,p,rfl,k2,k3⟩
end
end Go.Proofs.Ytpcjbkgbnoocaaa
