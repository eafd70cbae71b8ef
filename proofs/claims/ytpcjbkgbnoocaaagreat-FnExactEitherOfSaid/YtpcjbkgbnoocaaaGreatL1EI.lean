/- The product of two automata, whole; the product of clauses. -/
import Derived.Test.YtpcjbkgbnoocaaaGreatL0EI
import Derived.Test.YtpcjbkgbnoocaaaGreatLawEI
set_option linter.unusedVariables false
set_option linter.unusedSimpArgs false
open Option renaming bind → ds, bind_some → gs
open List renaming getElem?_eq_getElem → hV, getElem?_eq_some_iff → it, replicate → sh, mem_of_getElem? → t0, length_append → vK, mem_singleton → vL, length_cons → vN, length_take → vO, mem_append → vS, take_add_one → vT, length_map → vV
open Bool renaming and_eq_true → vI, not_true → vJ
namespace Go.Proofs.YtpcjbkgbnoocaaaGreat
open Go Go.Wk Go.Proofs
theorem conI (l:List Int) (v:Int):bN l v=some (decide (v∈l)):=by
 rw[cX]
 congr 1
 rw[Bool.eq_iff_iff,List.any_eq_true,decide_eq_true_eq]
 exact⟨λ⟨y,hy,e⟩=>(show v=y by simpa using e) ▸ hy,λh=>⟨_,h,by simp⟩⟩
theorem mS {part:Key->Int}{K:List Key}{S:List Int}{j:Nat}{v:Key}(hv:K[j]? =some v) (hl:j<=1000):(bif decide (part v∈S) then ds (appS 8 (plK part K S j) [(j:Int)]) λx=>some x else some (plK part K S j))=some (plK part K S (j+1)):=by
 have hp:=sD part K S j
 have e:plK part K S (j+1)=plK part K S j++(match K[j]? with | some v=>if part v∈S then[(j:Int)] else[] | none=>[]):=rfl
 rw[e,hv]
 dsimp only
 by_cases h:part v∈S
 · rw[decide_eq_true h,cond_true,app1 (by omega) rfl,if_pos h];rfl
 · rw[decide_eq_false h,cond_false,if_neg h,List.append_nil]
theorem re {K:List Key}(hl:K.length<=300) (ps:List Pair) (hpl:ps.length<=4) (w:Bool):gD ps (K.map toL) (b01 w)=some (ps.map (plP (λv=>bif w then v.2 else v.1) K)):=by
 unfold gD
 obtain⟨s,h1,h2⟩:=ca (f:=fx ps (K.map toL) (b01 w)) (λj s=>s=(ps.take j).map (plP (λv=>bif w then v.2 else v.1) K)) ps.length (s:=[]) rfl (λj s hj hs=>by
  subst hs
  have hp:ps[j]? =some ps[j]:=hV hj
  generalize ps[j]=p at hp
  obtain⟨t,k1,k2⟩:=ca (f:=fk ps (K.map toL) (b01 w) (j:Int)) (λi s=>s=(plK (λv=>bif w then v.2 else v.1) K p.Ask i,plK (λv=>bif w then v.2 else v.1) K p.Give i)) (K.map toL).length (s:=([],[])) rfl (λi s hi hs=>by
   subst hs
   rw[vV]at hi
   have hv:K[i]? =some K[i]:=hV hi
   generalize K[i]=v at hv
   have g1:idx (K.map toL) (i:Int)=some (toL v):=by rw[bG,List.getElem?_map,hv];rfl
   have g2:idx (toL v) (b01 w)=some (bif w then v.2 else v.1):=by cases w <;> rfl
   have q1:=mS (part:=λv=>bif w then v.2 else v.1) (S:=p.Ask) hv (by omega)
   have q2:=mS (part:=λv=>bif w then v.2 else v.1) (S:=p.Give) hv (by omega)
   unfold fk
   dsimp only at q1 q2 ⊢
   rw[bG,hp,gs,g1,gs,g2,gs,oJ,gs,q1,gs,gs,gs,g2,gs,oJ,gs,q2,gs]
   exact⟨_,rfl,rfl⟩)
  rw[vV]at k2
  unfold fx
  rw[k1,gs,bK,k2]
  dsimp only
  rw[app1 (by rw[vV,vO];omega) rfl,gs]
  exact⟨_,rfl,by rw[vT,hp,List.map_append];rfl⟩)
 rw[h1,gs,bK,h2,List.take_length]
theorem qU {K:List Key}(hl:K.length<=300){ii:Int}{R:List (List Int)}(a b:Det) (w:Bool) (ps:List Pair) (acc:List Pair) (hpl:acc.length+ps.length<=8) (X:Det) (hX:X.Pairs=ps):cntM (cN (K,ii,R) (b01 w) X) ps.length 0 acc=some (.inr (acc++ps.map (plP (λv=>bif w then v.2 else v.1) K))):=by
 obtain⟨s,h1,h2⟩:=ca (f:=cN (K,ii,R) (b01 w) X) (λj s=>s=acc++(ps.take j).map (plP (λv=>bif w then v.2 else v.1) K)) ps.length (s:=acc) (by simp) (λj s hj hs=>by
  subst hs
  have hp:ps[j]? =some ps[j]:=hV hj
  generalize ps[j]=p at hp
  obtain⟨t,k1,k2⟩:=ca (f:=eS (K,ii,R) (b01 w) p) (λi s=>s=(plK (λv=>bif w then v.2 else v.1) K p.Ask i,plK (λv=>bif w then v.2 else v.1) K p.Give i)) K.length (s:=([],[])) rfl (λi s hi hs=>by
   subst hs
   have hv:K[i]? =some K[i]:=hV hi
   generalize K[i]=v at hv
   have g2:idx [v.1,v.2] (b01 w)=some (bif w then v.2 else v.1):=by cases w <;> rfl
   have q1:=mS (part:=λv=>bif w then v.2 else v.1) (S:=p.Ask) hv (by omega)
   have q2:=mS (part:=λv=>bif w then v.2 else v.1) (S:=p.Give) hv (by omega)
   unfold eS
   dsimp only at q1 q2 ⊢
   rw[bG,hv,gs,g2,gs,conI,gs,q1,gs,gs,conI,gs,q2,gs]
   exact⟨_,rfl,rfl⟩)
  unfold cN
  dsimp only
  rw[hX,bG,hp,gs,k1,gs,bK,k2]
  dsimp only
  rw[app1 (by rw[vK,vV,vO];omega) rfl,gs]
  exact⟨_,rfl,by rw[vT,hp,List.map_append,List.append_assoc];rfl⟩)
 rw[h1,h2,List.take_length]
section
variable {p:Sig}{a b:Det}(hs:sigOk p=true) (ha:detOk p a=true) (hb:detOk p b=true) (hsum:a.Pairs.length+b.Pairs.length<=4){k:Nat}(hk:ltd p=k)
include hs ha hb hsum hk
structure JK (a b:Det) (k:Nat) (K:List Key) (R:List (List Int)):Prop where
 prod:Prod (kyJ a b) k K K.length R
 kin:KinJ a b K
 le:K.length<=48
theorem ry:(dW a b (k:Int)=some (zeroD,false)/\fS a b=some (zeroD,false)/\48<a.Next.length * b.Next.length)\/∃K R,JK a b k K R/\dW a b (k:Int)=some (jD a b K R,true)/\fS a b=some (jD a b K R,true):=by
 obtain⟨a1,a2,a3,n1⟩:=gG ha
 obtain⟨b1,b2,b3,n2⟩:=gG hb
 have h16:k<=16:=by have:=nc hs;unfold ltr at this;unfold ltd at hk;omega
 have hr:rng (k:Int)=some ():=by unfold rng;rw[if_pos (by omega)]
 obtain⟨o,t,w1,w2,w3⟩:=lA (f:=eu a b (k:Int)) (g:=eK a b) (λs t=>∃K i R,s=(K.map toL,((i:Nat):Int),R)/\t=(K,((i:Nat):Int),R)/\Prod (kyJ a b) k K i R/\KinJ a b K/\K.length<=48) (λs=>100-s.2.1.toNat) (λr r'=>r=(zeroD,false)/\r'=(zeroD,false)/\48<a.Next.length * b.Next.length) (λs t=>∃K i R,s=(K.map toL,((i:Nat):Int),R)/\t=(K,((i:Nat):Int),R)/\Prod (kyJ a b) k K i R/\KinJ a b K/\K.length<=48/\i=K.length) (λs t ⟨K,i,R,e1,e2,hP,hK,hl⟩=>by
  subst e1 e2
  unfold eu eK
  dsimp only
  rw[vV]
  by_cases hlt:i<K.length
  · have hv:K[i]? =some K[i]:=hV hlt
    generalize K[i]=v at hv
    obtain⟨v0,v1,v2,v3⟩:=hK v (t0 hv)
    obtain⟨row,hrow,hmem⟩:=iE (xs:=a.Next) v0 v1
    have hrl:row.length=k:=by have:=(n1 row hmem).1;omega
    have e1:=uY ha hb hk hl h16 hK hv (M:=K.map toL) (R:=R)
    have e2:=vq ha hb hk hl h16 hK hv (R:=R) hrow hrl
    have rk:=lO (kyJ a b v) K k
    have hK':=ue ha hb hk hK (t0 hv)
    have hP':=hP.step hv
    generalize rowK (kyJ a b v) K k=G at *
    have hle:=rk.le
    have hRl:=hP.rl
    rw[decide_eq_true (show(i:Int)<(K.length:Int) by omega),cond_true,cond_true,hr,gs,Int.sub_zero,Int.toNat_natCast,e1,gs,bK,bG,hv,gs,hrow,gs,hrl,e2,gs,bK]
    dsimp only
    rw[vV]
    by_cases hbig:48<G.1.length
    · rw[decide_eq_true (show(48:Int)<(G.1.length:Int) by omega),cond_true,cond_true]
      exact⟨_,_,rfl,rfl,rfl,rfl,Nat.lt_of_lt_of_le hbig (qY hP'.nod hK')⟩
    · rw[decide_eq_false (show ¬(48:Int)<(G.1.length:Int) by omega),cond_false,cond_false,app1 (by omega) rfl,gs,gs,wr' (by omega) (by omega)]
      refine⟨_,_,rfl,rfl,⟨G.1,i+1,R++[G.2],rfl,rfl,hP',hK',by omega⟩,?_⟩
      dsimp only;omega
  · rw[decide_eq_false (show ¬(i:Int)<(K.length:Int) by omega),cond_false,cond_false]
    have:=hP.il
    exact⟨_,_,rfl,rfl,K,i,R,rfl,rfl,hP,hK,hl,by omega⟩) (2 ^ 64) (2 ^ 64) ([[0,0]],0,[]) ([(0,0)],0,[]) (by dsimp only;omega) (by dsimp only;omega) ⟨[(0,0)],0,[],rfl,rfl,Prod.init _ _,λv hv=>by
     rw[vL]at hv
     subst hv
     exact⟨Int.le_refl _,by dsimp only;omega,Int.le_refl _,by dsimp only;omega⟩,by simp⟩
 have hsw:decide ((4:Int)<IntKind.i64.wrap ((a.Pairs.length:Int)+(b.Pairs.length:Int)))=false:=by
  rw[wr' (by omega) (by omega)]
  exact decide_eq_false (by omega)
 unfold dW fS
 rw[hsw,cond_false,w1,w2,gs,gs]
 match o,t,w3 with
 | .inl r,.inl r',w3=>
  left
  rw[w3.1,w3.2.1]
  exact⟨rfl,rfl,w3.2.2⟩
 | .inr s,.inr t,⟨K,i,R,e1,e2,hP,hK,hl,ei⟩=>
  right
  subst e1 e2 ei
  refine⟨K,R,⟨hP,hK,hl⟩,?_,?_⟩
  · rw[bK]
    dsimp only
    have p1:=re (K:=K) (by omega) a.Pairs (by omega) false
    have p2:=re (K:=K) (by omega) b.Pairs (by omega) true
    rw[show b01 false=0 from rfl]at p1
    rw[show b01 true=1 from rfl]at p2
    rw[p1,gs,p2,gs,appL (by simp;omega) rfl,gs]
    rfl
  · rw[bK]
    have q1:=qU (K:=K) (by omega) (ii:=((K.length:Nat):Int)) (R:=R) a b false a.Pairs [] (by simp;omega) a rfl
    have q2:=qU (K:=K) (by omega) (ii:=((K.length:Nat):Int)) (R:=R) a b true b.Pairs ([]++a.Pairs.map (plP (λv=>bif false then v.2 else v.1) K)) (by simp;omega) b rfl
    have c1:cv a b (K,((K.length:Nat):Int),R) 0 []=some (.inr (.inr ([]++a.Pairs.map (plP (λv=>bif false then v.2 else v.1) K)))):=by
     unfold cv
     rw[show idx [a,b] 0=some a from rfl,gs]
     have q1':cntM (cN (K,((K.length:Nat):Int),R) 0 a) a.Pairs.length 0 []=_:=q1
     rw[q1',gs,bK]
    have c2:cv a b (K,((K.length:Nat):Int),R) 1 ([]++a.Pairs.map (plP (λv=>bif false then v.2 else v.1) K))=some (.inr (.inr (([]++a.Pairs.map (plP (λv=>bif false then v.2 else v.1) K))++b.Pairs.map (plP (λv=>bif true then v.2 else v.1) K)))):=by
     unfold cv
     rw[show idx [a,b] 1=some b from rfl,gs]
     have q2':cntM (cN (K,((K.length:Nat):Int),R) 1 b) b.Pairs.length 0 _=_:=q2
     rw[q2',gs,bK]
    have c3:cntM (cv a b (K,((K.length:Nat):Int),R)) [a,b].length 0 []=some (.inr (([]++a.Pairs.map (plP (λv=>bif false then v.2 else v.1) K))++b.Pairs.map (plP (λv=>bif true then v.2 else v.1) K))):=by
     show ds (cv a b (K,((K.length:Nat):Int),R) 0 []) _=_
     rw[c1,gs]
     show ds (cv a b (K,((K.length:Nat):Int),R) (0+1) _) _=_
     rw[show(0:Int)+1=1 from rfl,c2,gs]
     rfl
    rw[c3,gs,bK]
    rfl
end
theorem vz {p:Sig}{a b:Det}(hsum:a.Pairs.length+b.Pairs.length<=4){k:Nat}(hk:ltd p=k){K:List Key}{R:List (List Int)}(h:JK a b k K R):detOk p (jD a b K R)=true:=by
 have hl:=h.le
 have h0:=(it.1 h.prod.zero).1
 have hR:(jD a b K R).Next.length=K.length:=h.prod.rl
 unfold detOk
 rw[hR,decide_eq_true (show(1:Int)<=(K.length:Int) by omega),decide_eq_true (show(K.length:Int)<=48 by omega)]
 have e1:pairsOk (jD a b K R).Pairs (K.length:Int)=true:=by
  unfold pairsOk
  rw[vI,decide_eq_true_eq,List.all_eq_true]
  refine⟨?_,λx hx=>?_⟩
  · show(((a.Pairs.map _++b.Pairs.map _).length:Nat):Int)<=4
    rw[vK,vV,vV];omega
  · unfold pairOk
    have:∀part:Key->Int,∀y:Pair,x=plP part K y->(setOk (K.length:Int) x.Ask&&setOk (K.length:Int) x.Give)=true:=λpart y e=>by
     subst e
     show(setOk _ (plK part K y.Ask K.length)&&setOk _ (plK part K y.Give K.length))=true
     rw[(tq part K y.Ask K.length).ok (Int.le_refl _),(tq part K y.Give K.length).ok (Int.le_refl _)];rfl
    rcases vS.1 (show x∈a.Pairs.map (plP (·.1) K)++b.Pairs.map (plP (·.2) K) from hx) with hx | hx
    · obtain⟨y,_,e⟩:=List.mem_map.1 hx;exact this _ y e.symm
    · obtain⟨y,_,e⟩:=List.mem_map.1 hx;exact this _ y e.symm
 have e2:((jD a b K R).Next.all (detRow p (K.length:Int)))=true:=by
  rw[List.all_eq_true]
  intro row hrow
  obtain⟨j,hj⟩:=List.getElem?_of_mem (show row∈R from hrow)
  obtain⟨r1,v,r2,r3⟩:=h.prod.row j row hj
  unfold detRow
  rw[vI,List.all_eq_true,beq_iff_eq]
  refine⟨by omega,λx hx=>gk.2 ?_⟩
  obtain⟨i,hi⟩:=List.getElem?_of_mem hx
  have hil:=(it.1 hi).1
  obtain⟨y,y1,y2,y3⟩:=r3 i (by omega)
  rw[hi]at y1
  cases y1
  have:=(it.1 y3).1
  omega
 rw[e1,e2];rfl
end Go.Proofs.YtpcjbkgbnoocaaaGreat
set_option linter.unusedVariables false
set_option linter.unusedSimpArgs false
namespace Go.Proofs.YtpcjbkgbnoocaaaGreat
open Go Go.Wk Go.Proofs
def oneD (n:Nat):Det:=⟨[sh n 0],[]⟩
inductive PR (n:Nat):List Clause->Det->Prop
 | nil:PR n [] (oneD n)
 | snoc {cs c D K R} (h:PR n cs D) (k:JK D (monD c n) n K R):PR n (cs++[c]) (jD D (monD c n) K R)
theorem tB (c:Clause) (n:Nat):(monD c n).Next.length<=4:=by
 show((numsN _).map _).length<=4
 rw[vV,gM]
 unfold monStates
 (repeat' split) <;> omega
theorem PR.size {n:Nat}{cs:List Clause}{D:Det}(h:PR n cs D):D.Next.length<=4 ^ cs.length:=by
 induction h with
 | nil=>exact Nat.le_refl _
 | @snoc cs c D K R hp k ih=>
  show R.length<=_
  rw[k.prod.rl,vK]
  exact Nat.le_trans (qY k.prod.nod k.kin) (by show _<=4 ^ (cs.length+1);rw[Nat.pow_succ];exact Nat.mul_le_mul ih (tB c n))
def clausesOk (p:Sig) (cs:List Clause):Bool:=decide ((cs.length:Int)<=3)&&cs.all (clauseOk p)
theorem uo {p:Sig}(hs:sigOk p=true){n:Nat}(hn:ltd p=n):detOk p (oneD n)=true:=by
 have h:=nc hs
 unfold ltr at h
 unfold ltd at hn
 unfold detOk oneD
 have e:([sh n (0:Int)].all (detRow p ((1:Nat):Int)))=true:=by
  rw[List.all_eq_true]
  intro row hrow
  rw[vL]at hrow
  subst hrow
  unfold detRow ltd
  rw[List.length_replicate,vI,beq_iff_eq,List.all_eq_true]
  refine⟨hn.symm,λx hx=>?_⟩
  rw[(List.mem_replicate.1 hx).2]
  exact gk.2 ⟨Int.le_refl _,by omega⟩
 show(decide ((1:Int)<=((1:Nat):Int))&&decide (((1:Nat):Int)<=48)&&pairsOk [] ((1:Nat):Int)&&([sh n (0:Int)].all (detRow p ((1:Nat):Int))))=true
 rw[e];rfl
theorem qj (p:Sig){cs:List Clause}(hb:∀c∈cs,Clause.bd c):(df p cs=some (zeroD,false)/\dh p cs=some (zeroD,false)/\(sigOk p=true->clausesOk p cs=true->2<cs.length)) \/
 (sigOk p=true/\clausesOk p cs=true/\∃n D,ltd p=((n:Nat):Int)/\n<=16/\PR n cs D/\detOk p D=true/\D.Pairs.length=cs.length/\df p cs=some (D,true)/\dh p cs=some (D,true)):=by
 unfold df dh
 rw[og]
 cases hs:sigOk p with
 | false=>
  left
  have:eJ p cs=some false:=by
   unfold eJ
   rw[eE,hs];rfl
  rw[this]
  exact⟨rfl,rfl,λh=>by cases h⟩
 | true=>
  rw[oS hs hb,gs,gs,vJ,cond_false,nJ hs hb,gs,gs]
  show _\/(_/\clausesOk p cs=true/\_)
  have hc':(decide ((cs.length:Int)<=3)&&cs.all (clauseOk p))=clausesOk p cs:=rfl
  rw[hc']
  cases hc:clausesOk p cs with
  | false=>exact .inl ⟨rfl,rfl,λ_ h=>by cases h⟩
  | true=>
   have hcc:=hc
   unfold clausesOk at hcc
   rw[vI,decide_eq_true_eq,List.all_eq_true]at hcc
   obtain⟨l1,l2⟩:=nc hs
   obtain⟨n,hn⟩:=eN (z:=ltr p) (by omega)
   have hn':ltd p=(n:Int):=hn
   have hmk:mkS 8 (n:Int) (0:Int)=some (sh n 0):=cE (by omega) rfl
   have hone:=uo hs hn'
   rw[vJ,cond_false,cond_false,gf hs,jB hs,hn,gs,gs,hmk,gs,gs]
   obtain⟨o,t,w1,w2,w3⟩:=od (f:=dO p cs) (g:=dG p cs) (λj s t=>s=t/\PR n (cs.take j) ⟨s.1,s.2⟩/\detOk p ⟨s.1,s.2⟩=true/\s.2.length=j) (λr r'=>r=(zeroD,false)/\r'=(zeroD,false)/\2<cs.length) (λ_ _=>False) cs.length (λj s t hj ⟨e,hP,hd,hl⟩=>by
    subst e
    have hcj:cs[j]? =some cs[j]:=hV hj
    generalize cs[j]=c at hcj
    have hcm:=t0 hcj
    obtain⟨q1,q2⟩:=uF (hcc.2 c hcm) hn
    have hsum:(⟨s.1,s.2⟩:Det).Pairs.length+(monD c n).Pairs.length<=4:=by
     rw[q2]
     show s.2.length+1<=4
     omega
    unfold dO dG
    rw[bG,hcj,gs,gs,tg hs (hb c hcm) (hcc.2 c hcm) hn,te hs (hcc.2 c hcm) hn,gs,gs]
    have hJ:g8 p ⟨s.1,s.2⟩ (monD c n)=dW ⟨s.1,s.2⟩ (monD c n) (n:Int):=by
     have hb1:∀D:Det,detOk p D=true->∀x∈D.Pairs,x.Ask.length<=1000000000/\x.Give.length<=1000000000:=λD hD x hx=>by
      obtain⟨d1,d2,_,_⟩:=gG hD
      unfold detOk at hD
      simp only[vI]at hD
      have hp:=hD.1.2
      unfold pairsOk at hp
      rw[vI,List.all_eq_true]at hp
      have:=hp.2 x hx
      unfold pairOk at this
      rw[vI]at this
      have a1:=(St.of this.1).len
      have a2:=(St.of this.2).len
      omega
     unfold g8
     rw[ik hs (hb1 _ hd),hd,gs,vJ,cond_false,ik hs (hb1 _ q1),q1,gs,vJ,gs,cond_false,wr' (by omega) (by omega),decide_eq_false (by omega),gs,cond_false,gf hs,hn,gs]
     cases dW ⟨s.1,s.2⟩ (monD c n) (n:Int) <;> rfl
    rw[hJ]
    rcases ry hs hd q1 hsum hn' with ⟨j1,j2,j3⟩ | ⟨K,R,hK,j1,j2⟩
    · rw[j1,j2]
      refine⟨_,_,rfl,rfl,rfl,rfl,?_⟩
      have z1:=hP.size
      have z2:(monD c n).Next.length<=4:=tB c n
      rw[vO,Nat.min_eq_left (by omega)]at z1
      by_cases hj2:j<2
      · exfalso
        have z3:4 ^ j<=4 ^ 1:=Nat.pow_le_pow_right (by omega) (by omega)
        have z4:(⟨s.1,s.2⟩:Det).Next.length * (monD c n).Next.length<=4 * 4:=Nat.mul_le_mul (by omega) z2
        omega
      · omega
    · rw[j1,j2]
      refine⟨_,_,rfl,rfl,rfl,?_,vz hsum hn' hK,?_⟩
      · rw[vT,hcj]
        exact PR.snoc hP hK
      · show((s.2.map _++(monD c n).Pairs.map _).length)=_
        rw[vK,vV,vV,hl,q2]) cs.length 0 ([sh n 0],[]) ([sh n 0],[]) (by omega) ⟨rfl,PR.nil,hone,rfl⟩
   have w1':cntM (dO p cs) cs.length 0 ([sh n 0],[])=some o:=w1
   have w2':cntM (dG p cs) cs.length 0 ([sh n 0],[])=some t:=w2
   rw[w1',w2',gs,gs]
   match o,t,w3 with
   | .inl r,.inl r',w3=>
    left
    rw[w3.1,w3.2.1]
    exact⟨rfl,rfl,λ_ _=>w3.2.2⟩
   | .inr s,.inr t,.inl ⟨e,hP,hd,hl⟩=>
    right
    subst e
    rw[List.take_length]at hP
    exact⟨rfl,rfl,n,⟨s.1,s.2⟩,hn',by omega,hP,hd,hl,rfl,rfl⟩
end Go.Proofs.YtpcjbkgbnoocaaaGreat
set_option linter.unusedVariables false
set_option linter.unusedSimpArgs false
namespace Go.Proofs.YtpcjbkgbnoocaaaGreat.Par
open Classical
structure Gm where
 own:Int->Bool
 pri:Int->Int
 E:Int->Int->Prop
variable (G:Gm)
def oddP (d:Int):Bool:=decide (d % 2=1)
def Play (p:Bool) (D:Int->Prop) (σ:Int->Int) (π:Nat->Int):Prop:=∀n,D (π n)/\G.E (π n) (π (n+1))/\(G.own (π n)=p->π (n+1)=σ (π n))
def Wins (p:Bool) (π:Nat->Int):Prop:=∃d,oddP d=p/\(∀N,∃n,N<=n/\G.pri (π n)=d)/\∃N,∀n,N<=n->G.pri (π n)<=d
def Dom (X:Int->Prop) (p:Bool) (D:Int->Prop):Prop:=∃σ:Int->Int,(∀v,D v->X v)/\(∀v,D v->G.own v=p->G.E v (σ v)/\D (σ v))/\(∀v u,D v->¬G.own v=p->G.E v u->X u->D u)/\∀π,Play G p D σ π->Wins G p π
def NoDead (X:Int->Prop):Prop:=∀v,X v->∃u,G.E v u/\X u
structure IsAttr (X:Int->Prop) (p:Bool) (S A:Int->Prop):Prop where
 sub:∀v,A v->X v
 base:∀v,X v->S v->A v
 rank:∃r:Int->Nat,∀v,A v->S v\/(G.own v=p/\∃u,G.E v u/\A u/\r u<r v)\/(¬G.own v=p/\∀u,G.E v u->X u->A u/\r u<r v)
 mine:∀v u,X v->¬A v->G.own v=p->G.E v u->X u->¬A u
 yours:∀v,X v->¬A v->¬G.own v=p->∃u,G.E v u/\X u/\¬A u
def Mn (X A:Int->Prop):Int->Prop:=λv=>X v/\¬A v
variable {G}{X:Int->Prop}{p:Bool}{S A D D':Int->Prop}
theorem Wins.tail {π:Nat->Int}(k:Nat) (h:Wins G p (λn=>π (n+k))):Wins G p π:=by
 obtain⟨d,h1,h2,N,h3⟩:=h
 refine⟨d,h1,λM=>?_,N+k,λn hn=>?_⟩
 · obtain⟨n,hn,he⟩:=h2 M
   exact⟨n+k,by omega,he⟩
 · have:=h3 (n-k) (by omega)
   dsimp only at this
   rwa [show n-k+k=n from by omega]at this
theorem Wins.not_both {π:Nat->Int}(h:Wins G p π) (h':Wins G (!p) π):False:=by
 obtain⟨d,a1,a2,N,a3⟩:=h
 obtain⟨e,b1,b2,M,b3⟩:=h'
 obtain⟨n,n1,n2⟩:=a2 M
 obtain⟨m,m1,m2⟩:=b2 N
 have:=b3 n n1
 have:=a3 m m1
 have:d=e:=by omega
 subst this
 rw[a1]at b1
 cases p <;> cases b1
theorem Play.tail {σ:Int->Int}{π:Nat->Int}(h:Play G p D σ π) (k:Nat):Play G p D σ (λn=>π (n+k)):=λn=>by
 have:=h (n+k)
 rwa [show n+k+1=n+1+k from by omega]at this
theorem Dom.disj (h:Dom G X p D) (h':Dom G X (!p) D'){v:Int}(hv:D v) (hv':D' v):False:=by
 obtain⟨σ,a1,a2,a3,a4⟩:=h
 obtain⟨τ,b1,b2,b3,b4⟩:=h'
 let f:Int->Int:=λv=>if G.own v=p then σ v else τ v
 let π:Nat->Int:=λn=>Nat.rec v (λ_ x=>f x) n
 have hs:∀n,π (n+1)=f (π n):=λn=>rfl
 have key:∀w,D w->D' w->G.E w (f w)/\D (f w)/\D' (f w):=λw hw hw'=>by
  by_cases ho:G.own w=p
  · have e:f w=σ w:=if_pos ho
    obtain⟨k1,k2⟩:=a2 w hw ho
    rw[e]
    exact⟨k1,k2,b3 w _ hw' (by rw[ho];cases p <;> simp) k1 (a1 _ k2)⟩
  · have e:f w=τ w:=if_neg ho
    obtain⟨k1,k2⟩:=b2 w hw' (by revert ho;cases G.own w <;> cases p <;> simp)
    rw[e]
    exact⟨k1,a3 w _ hw ho k1 (b1 _ k2),k2⟩
 have inv:∀n,D (π n)/\D' (π n):=λn=>by
  induction n with
  | zero=>exact⟨hv,hv'⟩
  | succ n ih=>
   obtain⟨_,k2,k3⟩:=key _ ih.1 ih.2
   rw[hs];exact⟨k2,k3⟩
 refine(a4 π λn=>⟨(inv n).1,by rw[hs];exact(key _ (inv n).1 (inv n).2).1,λho=>by rw[hs];exact if_pos ho⟩).not_both (b4 π λn=>⟨(inv n).2,by rw[hs];exact(key _ (inv n).1 (inv n).2).1,λho=>by rw[hs];exact if_neg (by rw[ho];cases p <;> simp)⟩)
theorem Dom.empty:Dom G X p (λ_=>False):=⟨id,λ_ h=>h.elim,λ_ h=>h.elim,λ_ _ h=>h.elim,λπ h=>(h 0).1.elim⟩
theorem Dom.congr (h:Dom G X p D) (e:∀v,D v↔D' v):Dom G X p D':=by
 have:D=D':=funext λv=>propext (e v)
 exact this ▸ h
theorem descent {r:Nat->Nat}(h:∀n,r (n+1)<r n):False:=by
 have:∀n,r n+n<=r 0:=λn=>by
  induction n with
  | zero=>omega
  | succ n ih=>have:=h n;omega
 have:=this (r 0+1)
 omega
theorem Dom.grow (h1:Dom G X p D) (hA:IsAttr G X p D A) (h2:Dom G (Mn X A) p D'):Dom G X p (λv=>A v\/D' v):=by
 obtain⟨σ,a1,a2,a3,a4⟩:=h1
 obtain⟨τ,b1,b2,b3,b4⟩:=h2
 obtain⟨r,hr⟩:=hA.rank
 have hDA:∀v,D v->A v:=λv hv=>hA.base v (a1 v hv) hv
 let f:Int->Int:=λv=>if D v then σ v else if h:∃u,G.E v u/\A u/\r u<r v then h.choose else τ v
 have fD:∀v,D v->f v=σ v:=λv hv=>if_pos hv
 have fA:∀v,A v->¬D v->G.own v=p->G.E v (f v)/\A (f v)/\r (f v)<r v:=λv hv hd ho=>by
  rcases hr v hv with h | ⟨_,h⟩ | ⟨h,_⟩
  · exact absurd h hd
  · have e:f v=h.choose:=by show(if D v then _ else _)=_;rw[if_neg hd,dif_pos h]
    rw[e];exact h.choose_spec
  · exact absurd ho h
 have fT:∀v,D' v->G.own v=p->f v=τ v:=λv hv ho=>by
  obtain⟨hx,ha⟩:=b1 v hv
  have:¬∃u,G.E v u/\A u/\r u<r v:=λ⟨u,k1,k2,_⟩=>hA.mine v u hx ha ho k1 (hA.sub u k2) k2
  show(if D v then _ else _)=_
  rw[if_neg (λh=>ha (hDA v h)),dif_neg this]
 refine⟨f,?_,?_,?_,?_⟩
 · rintro v (h | h)
   · exact hA.sub v h
   · exact(b1 v h).1
 · rintro v (h | h) ho
   · by_cases hd:D v
     · rw[fD v hd];exact⟨(a2 v hd ho).1,.inl (hDA _ (a2 v hd ho).2)⟩
     · exact⟨(fA v h hd ho).1,.inl (fA v h hd ho).2.1⟩
   · rw[fT v h ho];exact⟨(b2 v h ho).1,.inr (b2 v h ho).2⟩
 · rintro v u (h | h) ho he hx
   · by_cases hd:D v
     · exact .inl (hDA u (a3 v u hd ho he hx))
     · rcases hr v h with h' | ⟨h',_⟩ | ⟨_,h'⟩
       · exact absurd h' hd
       · exact absurd h' ho
       · exact .inl (h' u he hx).1
   · by_cases ha:A u
     · exact .inl ha
     · exact .inr (b3 v u h ho he ⟨hx,ha⟩)
 · intro π hπ
   have hX:∀n,X (π n):=λn=>by
    rcases(hπ n).1 with h | h
    · exact hA.sub _ h
    · exact(b1 _ h).1
   by_cases hD:∃n,D (π n)
   · obtain⟨n,hn⟩:=hD
     have st:∀k,D (π (k+n)):=λk=>by
      induction k with
      | zero=>rwa [Nat.zero_add]
      | succ k ih=>
       have e:k+1+n=k+n+1:=by omega
       by_cases ho:G.own (π (k+n))=p
       · have:=(hπ (k+n)).2.2 ho
         rw[fD _ ih]at this
         rw[e,this]
         exact(a2 _ ih ho).2
       · rw[e];exact a3 _ _ ih ho (hπ (k+n)).2.1 (hX _)
     refine Wins.tail n (a4 _ λk=>⟨st k,?_,λho=>?_⟩)
     · have:=(hπ (k+n)).2.1
       rwa [show k+n+1=k+1+n from by omega]at this
     · have:=(hπ (k+n)).2.2 ho
       rw[fD _ (st k),show k+n+1=k+1+n from by omega]at this
       exact this
   · have hD:∀n,¬D (π n):=λn h=>hD ⟨n,h⟩
     by_cases hA':∃n,A (π n)
     · obtain⟨n,hn⟩:=hA'
       have step:∀m,A (π m)->A (π (m+1))/\r (π (m+1))<r (π m):=λm hm=>by
        by_cases ho:G.own (π m)=p
        · rw[(hπ m).2.2 ho];exact(fA _ hm (hD m) ho).2
        · rcases hr _ hm with h' | ⟨h',_⟩ | ⟨_,h'⟩
          · exact absurd h' (hD m)
          · exact absurd h' ho
          · exact h' _ (hπ m).2.1 (hX _)
       have st:∀k,A (π (k+n)):=λk=>by
        induction k with
        | zero=>rwa [Nat.zero_add]
        | succ k ih=>rw[show k+1+n=k+n+1 from by omega];exact(step _ ih).1
       exact(descent (r:=λk=>r (π (k+n))) λk=>by
        have:=(step _ (st k)).2
        rwa [show k+n+1=k+1+n from by omega]at this).elim
     · have hT:∀n,D' (π n):=λn=>(hπ n).1.resolve_left λh=>hA' ⟨n,h⟩
       refine b4 π λn=>⟨hT n,(hπ n).2.1,λho=>?_⟩
       rw[(hπ n).2.2 ho,fT _ (hT n) ho]
theorem Dom.lift (hA:IsAttr G X p S A) (h:Dom G (Mn X A) (!p) D):Dom G X (!p) D:=by
 obtain⟨τ,b1,b2,b3,b4⟩:=h
 refine⟨τ,λv hv=>(b1 v hv).1,b2,λv u hv ho he hx=>b3 v u hv ho he ⟨hx,?_⟩,b4⟩
 have ho':G.own v=p:=by revert ho;cases G.own v <;> cases p <;> simp
 exact hA.mine v u (b1 v hv).1 (b1 v hv).2 ho' he hx
theorem Dom.top {d:Int}(hN:NoDead G X) (hd:∀v,X v->G.pri v<=d) (hp:oddP d=p) (hA:IsAttr G X p (λv=>G.pri v=d) A) (h:Dom G (Mn X A) p (Mn X A)):Dom G X p X:=by
 obtain⟨τ,b1,b2,b3,b4⟩:=h
 obtain⟨r,hr⟩:=hA.rank
 let f:Int->Int:=λv=>if h:∃u,G.E v u/\A u/\r u<r v then h.choose else if A v then(if h:∃u,G.E v u/\X u then h.choose else v) else τ v
 have fT:∀v,Mn X A v->G.own v=p->f v=τ v:=λv hv ho=>by
  have:¬∃u,G.E v u/\A u/\r u<r v:=λ⟨u,k1,k2,_⟩=>hA.mine v u hv.1 hv.2 ho k1 (hA.sub u k2) k2
  show(if h:_ then _ else _)=_
  rw[dif_neg this,if_neg hv.2]
 have fA:∀v,A v->¬G.pri v=d->G.own v=p->A (f v)/\r (f v)<r v:=λv hv hd ho=>by
  rcases hr v hv with h | ⟨_,h⟩ | ⟨h,_⟩
  · exact absurd h hd
  · have e:f v=h.choose:=dif_pos h
    rw[e];exact h.choose_spec.2
  · exact absurd ho h
 refine⟨f,λ_ h=>h,λv hv ho=>?_,λv u _ _ _ hx=>hx,λπ hπ=>?_⟩
 · by_cases ha:A v
   · by_cases h:∃u,G.E v u/\A u/\r u<r v
     · have e:f v=h.choose:=dif_pos h
       rw[e];exact⟨h.choose_spec.1,hA.sub _ h.choose_spec.2.1⟩
     · have h2:=hN v hv
       have e:f v=h2.choose:=by
        show(if h:_ then _ else _)=_
        rw[dif_neg h,if_pos ha,dif_pos h2]
       rw[e];exact h2.choose_spec
   · rw[fT v ⟨hv,ha⟩ ho]
     have:=b2 v ⟨hv,ha⟩ ho
     exact⟨this.1,this.2.1⟩
 · have hX:∀n,X (π n):=λn=>(hπ n).1
   by_cases hinf:∀N,∃n,N<=n/\G.pri (π n)=d
   · exact⟨d,hp,hinf,0,λn _=>hd _ (hX n)⟩
   · obtain⟨N,hN'⟩:=Classical.not_forall.1 hinf
     have hne:∀n,N<=n->¬G.pri (π n)=d:=λn hn h=>hN' ⟨n,hn,h⟩
     by_cases hA':∃n,N<=n/\A (π n)
     · obtain⟨n,hnN,hn⟩:=hA'
       have step:∀m,N<=m->A (π m)->A (π (m+1))/\r (π (m+1))<r (π m):=λm hm' hm=>by
        by_cases ho:G.own (π m)=p
        · rw[(hπ m).2.2 ho];exact fA _ hm (hne m hm') ho
        · rcases hr _ hm with h' | ⟨h',_⟩ | ⟨_,h'⟩
          · exact absurd h' (hne m hm')
          · exact absurd h' ho
          · exact h' _ (hπ m).2.1 (hX _)
       have st:∀k,A (π (k+n)):=λk=>by
        induction k with
        | zero=>rwa [Nat.zero_add]
        | succ k ih=>rw[show k+1+n=k+n+1 from by omega];exact(step _ (by omega) ih).1
       exact(descent (r:=λk=>r (π (k+n))) λk=>by
        have:=(step _ (by omega) (st k)).2
        rwa [show k+n+1=k+1+n from by omega]at this).elim
     · have hT:∀n,N<=n->Mn X A (π n):=λn hn=>⟨hX n,λh=>hA' ⟨n,hn,h⟩⟩
       refine Wins.tail N (b4 _ λk=>⟨hT _ (by omega),?_,λho=>?_⟩)
       · have:=(hπ (k+N)).2.1
         rwa [show k+N+1=k+1+N from by omega]at this
       · have:=(hπ (k+N)).2.2 ho
         rw[fT _ (hT _ (by omega)) ho,show k+N+1=k+1+N from by omega]at this
         exact this
theorem NoDead.less (h:NoDead G X) (hA:IsAttr G X p S A):NoDead G (Mn X A):=λv ⟨hx,ha⟩=>by
 by_cases ho:G.own v=p
 · obtain⟨u,k1,k2⟩:=h v hx
   exact⟨u,k1,k2,hA.mine v u hx ha ho k1 k2⟩
 · obtain⟨u,k1,k2,k3⟩:=hA.yours v hx ha ho
   exact⟨u,k1,k2,k3⟩
structure Sol (G:Gm) (X:Int->Prop) (p:Bool) (W:Int->Prop):Prop where
 sub:∀v,W v->X v
 mine:Dom G X p W
 yours:Dom G X (!p) (Mn X W)
theorem Sol.uniq {W W':Int->Prop}(h:Sol G X p W) (h':Sol G X p W') (v:Int):W v↔W' v:=by
 constructor
 · intro hv
   by_cases hv':W' v
   · exact hv'
   · exact(Dom.disj h.mine h'.yours hv ⟨h.sub v hv,hv'⟩).elim
 · intro hv
   by_cases hv':W v
   · exact hv'
   · exact(Dom.disj h'.mine h.yours hv ⟨h'.sub v hv,hv'⟩).elim
theorem Sol.flip {W:Int->Prop}(h:Sol G X p W):Sol G X (!p) (Mn X W):=by
 refine⟨λv hv=>hv.1,h.yours,?_⟩
 rw[Bool.not_not]
 refine h.mine.congr λv=>⟨λhv=>⟨h.sub v hv,λhm=>hm.2 hv⟩,λhv=>?_⟩
 by_cases hw:W v
 · exact hw
 · exact absurd ⟨hv.1,hw⟩ hv.2
theorem Sol.congr {W W':Int->Prop}(h:Sol G X p W) (e:∀v,W v↔W' v):Sol G X p W':=by
 have:W=W':=funext λv=>propext (e v)
 exact this ▸ h
end Go.Proofs.YtpcjbkgbnoocaaaGreat.Par
set_option linter.unusedVariables false
set_option linter.unusedSimpArgs false
namespace Go.Proofs.YtpcjbkgbnoocaaaGreat
open Go Go.Wk Go.Proofs
theorem cC {α:Type}{xs ys:List α}{i v:Int}{x:α}(h:setI xs i x=some ys):idx ys v=if v=i then some x else idx xs v:=by
 obtain⟨h0,h1,rfl,_⟩:=mU h
 unfold idx
 by_cases hv:0<=v
 · rw[if_pos hv,if_pos hv]
   by_cases e:v=i
   · subst e
     rw[if_pos rfl,List.getElem?_set_self (by omega)]
   · rw[if_neg e,List.getElem?_set_ne (by omega)]
 · rw[if_neg hv,if_neg hv,if_neg (by omega)]
theorem cu {α:Type}{xs:List α}{i:Int}(x:α) (h0:0<=i) (h1:i<xs.length):∃ys,setI xs i x=some ys/\ys.length=xs.length:=by
 have:setI xs i x=some (xs.set i.toNat x):=by unfold setI;rw[if_pos ⟨h0,h1⟩]
 exact⟨_,this,(mU this).2.2.2⟩
theorem cg {α:Type}{xs:List α}{i:Int}(h0:0<=i) (h1:i<xs.length):∃x,idx xs i=some x:=by
 obtain⟨x,h,_⟩:=iE h0 h1
 exact⟨x,h⟩
theorem ck {α:Type}{xs:List α}{i:Int}{x:α}(h:idx xs i=some x):0<=i/\i<xs.length:=⟨(gF h).1,(gF h).2.1⟩
def posL (v:Int):List Int->Nat
 | []=>0
 | x::xs=>if x=v then 0 else posL v xs+1
theorem rB {v:Int}:∀{Q:List Int},v∈Q->Q[posL v Q]? =some v
 | x::xs,h=>by
  unfold posL
  by_cases e:x=v
  · rw[if_pos e,e];rfl
  · rw[if_neg e]
    rcases List.mem_cons.1 h with h | h
    · exact absurd h.symm e
    · simpa using rB h
theorem sB {v:Int}:∀{Q:List Int}{m:Nat},Q[m]? =some v->posL v Q<=m
 | x::xs,0,h=>by
  unfold posL
  simp at h
  rw[if_pos h];omega
 | x::xs,m+1,h=>by
  unfold posL
  split
  · omega
  · have:=sB (Q:=xs) (m:=m) (by simpa using h)
    omega
theorem sX {u:Int}{Q:List Int}{k:Nat}(h:u∈Q.take k):posL u Q<k:=by
 obtain⟨m,hm⟩:=List.mem_iff_getElem?.1 h
 rw[List.getElem?_take]at hm
 split at hm
 · have:=sB hm;omega
 · cases hm
def In (B:List Bool) (v:Int):Prop:=idx B v=some true
section
variable (row:Int->List Int) (own:Int->Bool) (pri:Int->Int) (inn:Int->Prop) (p:Bool) (goal:Int->Prop)
def mkG:Par.Gm:=⟨own,pri,λv u=>u∈row v⟩
structure Cert (Q:List Int):Prop where
 nd:Q.Nodup
 mem:∀v∈Q,inn v
 why:∀(k:Nat) v,Q[k]? =some v->goal v\/(own v=p/\∃u∈Q.take k,u∈row v)\/(¬own v=p/\∀u∈row v,inn u->u∈Q.take k)
variable {row own pri inn p goal}
theorem Cert.snoc {Q:List Int}(h:Cert row own inn p goal Q){v:Int}(hv:v∉Q) (hi:inn v) (hw:goal v\/(own v=p/\∃u∈Q,u∈row v)\/(¬own v=p/\∀u∈row v,inn u->u∈Q)):Cert row own inn p goal (Q++[v]):=by
 refine⟨?_,?_,?_⟩
 · rw[List.nodup_append]
   exact⟨h.nd,by simp,λa ha b hb=>by simp at hb;subst hb;exact λe=>hv (e ▸ ha)⟩
 · intro x hx
   rcases vS.1 hx with hx | hx
   · exact h.mem x hx
   · simp at hx;subst hx;exact hi
 · intro k x hk
   by_cases hlt:k<Q.length
   · rw[List.getElem?_append_left hlt]at hk
     rw[List.take_append_of_le_length (by omega)]
     exact h.why k x hk
   · have:k=Q.length:=by
      have:=(it.1 hk).1
      simp at this;omega
     subst this
     rw[List.getElem?_append_right (Nat.le_refl _),Nat.sub_self]at hk
     simp at hk
     subst hk
     rw[List.take_append_of_le_length (Nat.le_refl _),List.take_length]
     exact hw
def Trap (row:Int->List Int) (own:Int->Bool) (inn:Int->Prop) (p:Bool) (Q:List Int) (d:Int->Int->Prop):Prop:=∀v,inn v->v∉Q->(own v=p->∀y∈row v,inn y->¬d v y)/\(¬own v=p->∃y∈row v,inn y/\¬d v y)
theorem Cert.attr {Q:List Int}(h:Cert row own inn p goal Q) (hg:∀v,inn v->goal v->v∈Q) (ht:Trap row own inn p Q (λ_ y=>y∈Q)):Par.IsAttr (mkG row own pri) inn p goal (λv=>v∈Q):=by
 refine⟨h.mem,hg,⟨λv=>posL v Q,λv hv=>?_⟩,?_,?_⟩
 · have hlt:∀u,u∈Q.take (posL v Q)->u∈Q/\posL u Q<posL v Q:=λu hu=>⟨List.mem_of_mem_take hu,sX hu⟩
   rcases h.why _ v (rB hv) with hw | ⟨ho,u,hu,hr⟩ | ⟨ho,hw⟩
   · exact .inl hw
   · exact .inr (.inl ⟨ho,u,hr,hlt u hu⟩)
   · exact .inr (.inr ⟨ho,λu hr hx=>hlt u (hw u hr hx)⟩)
 · intro v u hx hq ho he hxu
   exact(ht v hx hq).1 ho u he hxu
 · intro v hx hq ho
   obtain⟨y,h1,h2,h3⟩:=(ht v hx hq).2 ho
   exact⟨y,h1,h2,h3⟩
end
open Classical in
noncomputable def lf (row:List Int) (inn d:Int->Prop):Nat:=(row.filter (λy=>decide (inn y/\¬d y))).length
theorem pK {row:List Int}{inn d:Int->Prop}:lf row inn d=0↔∀y∈row,inn y->d y:=by
 classical
 unfold lf
 rw[List.length_eq_zero_iff,List.filter_eq_nil_iff]
 constructor
 · intro h y hy hi
   by_cases hd:d y
   · exact hd
   · exact absurd (by simp;exact⟨hi,hd⟩) (h y hy)
 · intro h y hy hc
   simp at hc
   exact hc.2 (h y hy hc.1)
theorem ec {row:List Int}{inn d d':Int->Prop}(h:∀y∈row,inn y->(d y↔d' y)):lf row inn d=lf row inn d':=by
 classical
 unfold lf
 congr 1
 apply List.filter_congr
 intro y hy
 by_cases hi:inn y
 · simp[hi,h y hy hi]
 · simp[hi]
theorem ua {row:List Int}{inn d:Int->Prop}:lf row inn d<=row.length:=by
 unfold lf;exact List.length_filter_le _ _
theorem qq {inn d:Int->Prop}{u:Int}:∀{row:List Int},row.Nodup->u∈row->inn u->¬d u->lf row inn (λy=>d y\/y=u)+1=lf row inn d
 | x::xs,hn,hu,hi,hd=>by
  classical
  have hn':=List.nodup_cons.1 hn
  by_cases e:x=u
  · subst e
    have:lf xs inn (λy=>d y\/y=x)=lf xs inn d:=ec λy hy _=>⟨λh=>h.resolve_right λe=>hn'.1 (e ▸ hy),.inl⟩
    unfold lf at this ⊢
    rw[List.filter_cons,if_neg (by simp),List.filter_cons,if_pos (by simp[hi,hd]),vN,this]
  · have hu':u∈xs:=(List.mem_cons.1 hu).resolve_left λh=>e h.symm
    have ih:=qq hn'.2 hu' hi hd
    unfold lf at ih ⊢
    rw[List.filter_cons,List.filter_cons]
    by_cases hc:inn x/\¬d x
    · rw[if_pos (by simp[hc,e]),if_pos (by simp[hc]),vN,vN,← ih]
    · rw[if_neg (by simp[e];exact λh=>Classical.byContradiction λh2=>hc ⟨h,h2⟩),if_neg (by simp;exact λh=>Classical.byContradiction λh2=>hc ⟨h,h2⟩),ih]
def dn (T:List Int) (u:Int) (L:List Int) (v y:Int):Prop:=y∈T\/(y=u/\v∈L)
structure Mid (row:Int->List Int) (own:Int->Bool) (inn:Int->Prop) (p:Bool) (goal:Int->Prop) (T:List Int) (u:Int) (L Q:List Int):Prop where
 cert:Cert row own inn p goal Q
 hu:∃R,Q=T++u::R
 trap:Trap row own inn p Q (dn T u L)
section
variable {row:Int->List Int}{own:Int->Bool}{inn:Int->Prop}{p:Bool}{goal:Int->Prop}{T:List Int}{u:Int}{L Q:List Int}
theorem Mid.u_in (h:Mid row own inn p goal T u L Q):u∈Q/\u∉T/\inn u:=by
 obtain⟨R,e⟩:=h.hu
 have hq:u∈Q:=by rw[e];simp
 refine⟨hq,?_,h.cert.mem u hq⟩
 have:=h.cert.nd
 rw[e,List.nodup_append]at this
 exact λht=>this.2.2 u ht u (by simp) rfl
theorem fF {v w y:Int}(h:w≠v):dn T u (L++[v]) w y↔dn T u L w y:=by
 unfold dn
 rw[vS,vL]
 constructor
 · rintro(h1 | ⟨h1,h2 | h2⟩)
   · exact .inl h1
   · exact .inr ⟨h1,h2⟩
   · exact absurd h2 h
 · rintro(h1 | ⟨h1,h2⟩)
   · exact .inl h1
   · exact .inr ⟨h1,.inl h2⟩
theorem qt {v y:Int}:dn T u (L++[v]) v y↔y∈T\/y=u:=by
 unfold dn;simp
theorem jZ {v y:Int}(h:v∉L):dn T u L v y↔y∈T:=by
 unfold dn;simp[h]
theorem Mid.skip (h:Mid row own inn p goal T u L Q){v:Int}(hv:¬inn v\/v∈Q\/u∉row v):Mid row own inn p goal T u (L++[v]) Q:=by
 refine⟨h.cert,h.hu,λw hw hq=>?_⟩
 obtain⟨t1,t2⟩:=h.trap w hw hq
 by_cases e:w=v
 · subst e
   have hu:u∉row w:=by
    rcases hv with hv | hv | hv
    · exact absurd hw hv
    · exact absurd hv hq
    · exact hv
   have key:∀y∈row w,(dn T u (L++[w]) w y↔dn T u L w y):=λy hy=>by
    have hyu:y≠u:=λe=>hu (e ▸ hy)
    unfold dn;simp[hyu]
   refine⟨λho y hy hi=>λhd=>t1 ho y hy hi ((key y hy).1 hd),λho=>?_⟩
   obtain⟨y,h1,h2,h3⟩:=t2 ho
   exact⟨y,h1,h2,λhd=>h3 ((key y h1).1 hd)⟩
 · refine⟨λho y hy hi=>λhd=>t1 ho y hy hi ((fF e).1 hd),λho=>?_⟩
   obtain⟨y,h1,h2,h3⟩:=t2 ho
   exact⟨y,h1,h2,λhd=>h3 ((fF e).1 hd)⟩
theorem Mid.stay (h:Mid row own inn p goal T u L Q){v:Int}(ho:¬own v=p) (hl:lf (row v) inn (λy=>y∈T\/y=u)≠0):Mid row own inn p goal T u (L++[v]) Q:=by
 refine⟨h.cert,h.hu,λw hw hq=>?_⟩
 obtain⟨t1,t2⟩:=h.trap w hw hq
 by_cases e:w=v
 · subst e
   refine⟨λho'=>absurd ho' ho,λ_=>?_⟩
   apply Classical.byContradiction
   intro hc
   apply hl
   rw[pK]
   intro y hy hi
   apply Classical.byContradiction
   intro hd
   exact hc ⟨y,hy,hi,λh=>hd (qt.1 h)⟩
 · refine⟨λho y hy hi=>λhd=>t1 ho y hy hi ((fF e).1 hd),λho=>?_⟩
   obtain⟨y,h1,h2,h3⟩:=t2 ho
   exact⟨y,h1,h2,λhd=>h3 ((fF e).1 hd)⟩
theorem Mid.add (h:Mid row own inn p goal T u L Q){v:Int}(hi:inn v) (hq:v∉Q) (hu:u∈row v) (hw:own v=p\/lf (row v) inn (λy=>y∈T\/y=u)=0):Mid row own inn p goal T u (L++[v]) (Q++[v]):=by
 obtain⟨R,e⟩:=h.hu
 have hTQ:∀y,y∈T\/y=u->y∈Q:=λy hy=>by
  rw[e]
  rcases hy with hy | hy
  · simp[hy]
  · simp[hy]
 refine⟨h.cert.snoc hq hi ?_,⟨R++[v],by rw[e];simp⟩,λw hw' hq'=>?_⟩
 · by_cases ho:own v=p
   · exact .inr (.inl ⟨ho,u,h.u_in.1,hu⟩)
   · exact .inr (.inr ⟨ho,λy hy hyi=>hTQ y ((pK.1 (hw.resolve_left ho)) y hy hyi)⟩)
 · rw[vS,vL,not_or]at hq'
   obtain⟨t1,t2⟩:=h.trap w hw' hq'.1
   refine⟨λho y hy hi=>λhd=>t1 ho y hy hi ((fF hq'.2).1 hd),λho=>?_⟩
   obtain⟨y,h1,h2,h3⟩:=t2 ho
   exact⟨y,h1,h2,λhd=>h3 ((fF hq'.2).1 hd)⟩
theorem Mid.first {R:List Int}(hc:Cert row own inn p goal (T++u::R)) (ht:Trap row own inn p (T++u::R) (λ_ y=>y∈T)):Mid row own inn p goal T u [] (T++u::R):=by
 refine⟨hc,⟨R,rfl⟩,λv hv hq=>?_⟩
 obtain⟨t1,t2⟩:=ht v hv hq
 refine⟨λho y hy hi hd=>t1 ho y hy hi ((jZ (by simp)).1 hd),λho=>?_⟩
 obtain⟨y,h1,h2,h3⟩:=t2 ho
 exact⟨y,h1,h2,λhd=>h3 ((jZ (by simp)).1 hd)⟩
theorem Mid.last (h:Mid row own inn p goal T u L Q) (hL:∀v,inn v->u∈row v->v∈L):Trap row own inn p Q (λ_ y=>y∈T++[u]):=λv hv hq=>by
 obtain⟨t1,t2⟩:=h.trap v hv hq
 have key:∀y∈row v,(y∈T++[u]->dn T u L v y):=λy hy hm=>by
  rw[vS,vL]at hm
  rcases hm with hm | hm
  · exact .inl hm
  · exact .inr ⟨hm,hL v hv (hm ▸ hy)⟩
 refine⟨λho y hy hi hd=>t1 ho y hy hi (key y hy hd),λho=>?_⟩
 obtain⟨y,h1,h2,h3⟩:=t2 ho
 exact⟨y,h1,h2,λhd=>h3 (by
  rcases vS.1 hd with hm | hm
  · exact .inl hm
  · rw[vL]at hm
    exact .inr ⟨hm,hL v hv (hm ▸ h1)⟩)⟩
end
end Go.Proofs.YtpcjbkgbnoocaaaGreat
set_option linter.unusedVariables false
set_option linter.unusedSimpArgs false
namespace Go.Proofs.YtpcjbkgbnoocaaaGreat
open Go Go.Wk Go.Proofs
structure WfS (x:l7Game) (n:Nat):Prop where
 n256:n<=256
 lo:x.owner.length=n
 lp:x.prio.length=n
 ln:x.next.length=n
 lk:x.pick.length=n
 lv:x.prev.length=n
 ow:∀v o,idx x.owner v=some o->o=0\/o=1
 row:∀v r,idx x.next v=some r->r.length<=16/\r.Nodup/\∀u∈r,0<=u/\u<n
 prev:∀u P,idx x.prev u=some P->P.Nodup/\P.length<=100000/\∀v,v∈P↔∃r,idx x.next v=some r/\u∈r
def okE (k u:Int):Bool:=decide (k<0)||(k==u)
def rowS (x:l7Game) (v:Int):List Int:=match idx x.next v,idx x.pick v with
 | some r,some k=>r.filter (okE k)
 | _,_=>[]
def ownL (O:List Int) (v:Int):Bool:=match idx O v with
 | some o=>o==1
 | none=>false
def priL (P:List Int) (v:Int):Int:=(idx P v).getD 0
theorem nY {x:l7Game}{v k:Int}{r:List Int}(hr:idx x.next v=some r) (hk:idx x.pick v=some k):rowS x v=r.filter (okE k):=by unfold rowS;rw[hr,hk]
theorem t7 {x:l7Game}{v k:Int}(u:Int) (hk:idx x.pick v=some k):ke x v u=some (okE k u):=by
 unfold ke okE
 rw[hk,gs]
 cases decide (k<0) <;> simp
theorem sK {O:List Int}{v o:Int}{p:Bool}(h:idx O v=some o) (ho:o=0\/o=1):(o==b2i p)=decide (ownL O v=p):=by
 unfold ownL
 rw[h]
 rcases ho with rfl | rfl <;> cases p <;> decide
section
variable {x:l7Game}{n:Nat}(wf:WfS x n){B:List Bool}(hB:B.length=n)
include wf
theorem WfS.get {v:Int}(h0:0<=v) (h1:v<n):∃r k,idx x.next v=some r/\idx x.pick v=some k:=by
 have:=wf.ln
 have:=wf.lk
 obtain⟨r,hr⟩:=cg (xs:=x.next) h0 (by omega)
 obtain⟨k,hk⟩:=cg (xs:=x.pick) h0 (by omega)
 exact⟨r,k,hr,hk⟩
theorem pW (v:Int):(rowS x v).Nodup/\(rowS x v).length<=16/\∀u∈rowS x v,0<=u/\u<n:=by
 unfold rowS
 cases hr:idx x.next v with
 | none=>simp
 | some r=>
  cases hk:idx x.pick v with
  | none=>simp
  | some k=>
   obtain⟨h1,h2,h3⟩:=wf.row v r hr
   exact⟨h2.filter _,Nat.le_trans (List.length_filter_le _ _) h1,λu hu=>h3 u (List.mem_filter.1 hu).1⟩
include hB
omit wf in
theorem kP {v:Int}(h:In B v):0<=v/\v<n:=by
 have:=ck h
 rw[hB]at this
 exact this
theorem qG {v:Int}(h0:0<=v) (h1:v<n):fJ x B v=some (lf (rowS x v) (In B) (λ_=>False):Int):=by
 classical
 obtain⟨r,k,hr,hk⟩:=wf.get h0 h1
 obtain⟨r1,r2,r3⟩:=wf.row v r hr
 let g:Int->Bool:=λu=>decide (In B u)&&okE k u
 unfold fJ
 obtain⟨o,w1,w2⟩:=cw (f:=fo x B v) (λj (s:Int×Int)=>s=((((r.take j).filter g).length:Int),(j:Int))/\j<=r.length) (λ_=>False) (λs=>s.1=((r.filter g).length:Int)) r.length (λj s ⟨hs,hj⟩=>by
  subst hs
  unfold fo
  rw[hr,gs]
  dsimp only
  by_cases hlt:(j:Int)<(r.length:Int)
  · have hu:r[j]? =some r[j]:=hV (by omega)
    generalize r[j]=u at hu
    obtain⟨u0,u1⟩:=r3 u (t0 hu)
    obtain⟨b,hb⟩:=cg (xs:=B) u0 (by omega)
    have hle:((r.take j).filter g).length<=j:=Nat.le_trans (List.length_filter_le _ _) (by rw[vO];omega)
    simp only[hlt,decide_true,cond_true,gs,bG,hu,hb,t7 u hk,andE]
    have hg:(b&&okE k u)=g u:=by
     show _=(decide (In B u)&&okE k u)
     congr 1
     unfold In;rw[hb];cases b <;> simp
    rw[hg]
    have htk:(r.take (j+1)).filter g=(r.take j).filter g++(if g u then[u] else[]):=by
     rw[vT,hu,List.filter_append];congr 1
     cases h:g u <;> simp[h]
    rw[wr' (by omega) (by omega),wr' (by omega) (by omega)]
    cases h:g u with
    | true=>exact⟨_,rfl,by omega,by rw[htk,h];simp,by omega⟩
    | false=>exact⟨_,rfl,by omega,by rw[htk,h];simp,by omega⟩
  · simp only[hlt,decide_false,cond_false]
    refine⟨_,rfl,?_⟩
    dsimp only
    rw[List.take_of_length_le (by omega)]) (2 ^ 64) 0 (0,0) (by omega) ⟨by simp,by omega⟩ (by omega)
 match o,w2 with
 | .inr s,h2=>
  rw[w1,gs,bK,h2,nY hr hk]
  unfold lf
  rw[List.filter_filter]
  congr 3
  apply List.filter_congr
  intro u _
  show(decide (In B u)&&okE k u)=_
  simp
theorem rz {goal:Int->Prop}{p:Bool}{T L Q:List Int}{u v:Int}{out:List Bool}{left:List Int}(hm:Mid (rowS x) (ownL x.owner) (In B) p goal T u L Q) (hvL:v∉L)
 {P:List Int} {j:Nat} (hP:idx x.prev u=some P) (hj:P[j]? =some v) (hQ:Q.length<=100000)
 (ho:out.length=n/\∀v:Int,0<=v->v<n->idx out v=some (decide (v∈Q))) (hl:left.length=n/\∀v,In B v->v∉Q->idx left v=some (lf (rowS x v) (In B) (dn T u L v):Int)):
 ∃Q' out' left',cZ x B (b2i p) u (Q,(j:Int),out,left)=some (.inr (.inr (Q',((j+1:Nat):Int),out',left')))/\Mid (rowS x) (ownL x.owner) (In B) p goal T u (L++[v]) Q' /\
  (out'.length=n/\∀v:Int,0<=v->v<n->idx out' v=some (decide (v∈Q')))/\(left'.length=n/\∀w,In B w->w∉Q'->idx left' w=some (lf (rowS x w) (In B) (dn T u (L++[v]) w):Int))/\(∀v∈Q,v∈Q'):=by
 have hn:=wf.n256
 obtain⟨p1,p2,p3⟩:=wf.prev u P hP
 obtain⟨r,hr,hur⟩:=(p3 v).1 (t0 hj)
 obtain⟨v0,v1⟩:=ck hr
 rw[wf.ln]at v1
 obtain⟨k,hk⟩:=cg (xs:=x.pick) v0 (by rw[wf.lk];exact v1)
 obtain⟨b,hb⟩:=cg (xs:=B) v0 (by omega)
 obtain⟨w,hw⟩:=cg (xs:=x.owner) v0 (by rw[wf.lo];exact v1)
 have hjl:(j:Int)<(P.length:Int):=by have:=(it.1 hj).1;omega
 have hwr:IntKind.i64.wrap ((j:Int)+1)=((j+1:Nat):Int):=by rw[wr' (by omega) (by omega)];omega
 unfold cZ
 rw[hP,gs]
 dsimp only
 simp only[hjl,decide_true,cond_true,gs,bG,hj,hb,ho.2 v v0 v1,t7 u hk,orE,hwr]
 have hedge:u∈rowS x v↔okE k u=true:=by rw[nY hr hk,List.mem_filter];exact⟨λh=>h.2,λh=>⟨hur,h⟩⟩
 have hdn:∀w,w≠v->lf (rowS x w) (In B) (dn T u (L++[v]) w)=lf (rowS x w) (In B) (dn T u L w):=λw hw=>ec λy _ _=>fF hw
 by_cases hsk:((!b||decide (v∈Q)) || !okE k u)=true
 · rw[hsk,cond_true]
   have hcond:¬In B v\/v∈Q\/u∉rowS x v:=by
    simp only[Bool.or_eq_true,Bool.not_eq_true',decide_eq_true_eq]at hsk
    rcases hsk with (h | h) | h
    · left;unfold In;rw[hb,h];simp
    · exact .inr (.inl h)
    · right;right;rw[hedge,h];simp
   refine⟨Q,out,left,rfl,hm.skip hcond,ho,⟨hl.1,λy hy hq=>?_⟩,λ_ h=>h⟩
   rw[hl.2 y hy hq]
   by_cases e:y=v
   · subst e
     have hu:u∉rowS x y:=by
      rcases hcond with h | h | h
      · exact absurd hy h
      · exact absurd h hq
      · exact h
     congr 2
     exact ec λz hz _=>by
      have:z≠u:=λe=>hu (e ▸ hz)
      unfold dn;simp[this]
   · rw[hdn y e]
 · simp only[Bool.not_eq_true,Bool.or_eq_false_iff,Bool.not_eq_false',decide_eq_false_iff_not]at hsk
   obtain⟨⟨h1,h2⟩,h3⟩:=hsk
   subst h1
   have hi:In B v:=hb
   have hu:u∈rowS x v:=hedge.2 h3
   have hlv:=hl.2 v hi h2
   have hlf:lf (rowS x v) (In B) (λy=>y∈T\/y=u)+1=lf (rowS x v) (In B) (dn T u L v):=by
    rw[qq (pW wf v).1 hu hm.u_in.2.2 hm.u_in.2.1]
    exact ec λy _ _=>(jZ hvL).symm
   have hlle:lf (rowS x v) (In B) (dn T u L v)<=16:=Nat.le_trans ua (pW wf v).2.1
   obtain⟨left',hs,hsl⟩:=cu (xs:=left) (i:=v) (lf (rowS x v) (In B) (λy=>y∈T\/y=u):Int) v0 (by omega)
   have hwrl:IntKind.i64.wrap ((lf (rowS x v) (In B) (dn T u L v):Int)-1)=(lf (rowS x v) (In B) (λy=>y∈T\/y=u):Int):=by rw[wr' (by omega) (by omega)];omega
   have hnew:idx left' v=some (lf (rowS x v) (In B) (λy=>y∈T\/y=u):Int):=by rw[cC hs,if_pos rfl]
   have hleft:∀w,In B w->w∉Q->idx left' w=some (lf (rowS x w) (In B) (dn T u (L++[v]) w):Int):=λw hw hq=>by
    rw[cC hs]
    by_cases e:w=v
    · subst e
      rw[if_pos rfl]
      congr 2
      exact ec λy _ _=>qt.symm
    · rw[if_neg e,hl.2 w hw hq,hdn w e]
   have hbeq:((lf (rowS x v) (In B) (λy=>y∈T\/y=u):Int)==0)=decide (lf (rowS x v) (In B) (λy=>y∈T\/y=u)=0):=by
    rw[Bool.eq_iff_iff];simp
   simp only[h2,h3,decide_false,vJ,Bool.or_false,cond_false,hlv,gs,hwrl,hs,hw,sK hw (wf.ow v w hw),hnew,hbeq,orE]
   by_cases hc:ownL x.owner v=p\/lf (rowS x v) (In B) (λy=>y∈T\/y=u)=0
   · have hc':(decide (ownL x.owner v=p)||decide (lf (rowS x v) (In B) (λy=>y∈T\/y=u)=0))=true:=by simpa using hc
     obtain⟨out',hso,hsol⟩:=cu (xs:=out) (i:=v) true v0 (by omega)
     simp only[hc',cond_true,hso,gs,app1 (show Q.length<=10000000000 by omega) (show Nat.ble 8 1024=true from rfl)]
     refine⟨_,_,_,rfl,hm.add hi h2 hu hc,⟨by omega,λy y0 y1=>?_⟩,⟨by omega,λw hw hq=>hleft w hw λh=>hq (List.mem_append_left _ h)⟩,λ_ h=>List.mem_append_left _ h⟩
     rw[cC hso]
     by_cases e:y=v
     · subst e;simp
     · rw[if_neg e,ho.2 y y0 y1];simp[e]
   · have hc':(decide (ownL x.owner v=p)||decide (lf (rowS x v) (In B) (λy=>y∈T\/y=u)=0))=false:=by simpa using hc
     rw[not_or]at hc
     simp only[hc',cond_false,gs]
     exact⟨_,_,_,rfl,hm.stay hc.1 hc.2,ho,⟨by omega,hleft⟩,λ_ h=>h⟩
end
end Go.Proofs.YtpcjbkgbnoocaaaGreat
set_option linter.unusedVariables false
set_option linter.unusedSimpArgs false
namespace Go.Proofs.YtpcjbkgbnoocaaaGreat
open Go Go.Wk Go.Proofs
def gS (x:l7Game):Par.Gm:=mkG (rowS x) (ownL x.owner) (priL x.prio)
theorem gh {α:Type}{xs:List α}{j:Nat}{y:α}(h:xs[j]? =some y):xs.take (j+1)=xs.take j++[y]:=by rw[vT,h];rfl
theorem oN {xs:List Int}{j:Nat}{y:Int}(hn:xs.Nodup) (h:xs[j]? =some y):y∉xs.take j:=by
 have h2:=hn.sublist (List.take_sublist (j+1) xs)
 rw[gh h,List.nodup_append]at h2
 exact λhm=>h2.2.2 y hm y (by simp) rfl
section
variable {x:l7Game}{n:Nat}(wf:WfS x n){B:List Bool}(hB:B.length=n)
include wf hB
omit wf in
theorem rn {p:Bool}{goal:Int->Prop}{Q:List Int}(h:Cert (rowS x) (ownL x.owner) (In B) p goal Q):Q.length<=n:=eH n Q h.nd λv hv=>kP hB (h.mem v hv)
theorem rX {goal:List Bool}(hG:goal.length=n){p:Bool}(hN:Par.NoDead (gS x) (In B)):∃Q out left,cntM (dB x B goal) B.length 0 ([],sh n false,sh n 0)=some (.inr (Q,out,left)) /\
 Cert (rowS x) (ownL x.owner) (In B) p (In goal) Q/\(∀v,In B v->In goal v->v∈Q)/\Trap (rowS x) (ownL x.owner) (In B) p Q (λ_ y=>y∈([]:List Int)) /\
 (out.length=n/\∀v:Int,0<=v->v<n->idx out v=some (decide (v∈Q)))/\(left.length=n/\∀w,In B w->w∉Q->idx left w=some (lf (rowS x w) (In B) (λy=>y∈([]:List Int)):Int)):=by
 have hn:=wf.n256
 obtain⟨s,h1,h2⟩:=ca (f:=dB x B goal) (λj (s:List Int×List Bool×List Int)=>s.1.Nodup/\(∀v,v∈s.1↔v<(j:Int)/\In B v/\In goal v) /\
  (s.2.1.length=n/\∀v:Int,0<=v->v<n->idx s.2.1 v=some (decide (v∈s.1)))/\(s.2.2.length=n/\∀w:Int,w<(j:Int)->In B w->idx s.2.2 w=some (lf (rowS x w) (In B) (λ_=>False):Int))) B.length (s:=([],sh n false,sh n 0))
  ⟨by simp,λv=>⟨λh=>by simp at h,λ⟨h,hb,_⟩=>by have:=(kP hB hb).1;omega⟩,⟨by simp,λv v0 v1=>by
   rw[cG v0,List.getElem?_replicate,if_pos (by omega)];simp⟩,⟨by simp,λw hw hb=>by have:=(kP hB hb).1;omega⟩⟩ (λj s hj ⟨q1,q2,o,l⟩=>by
  obtain⟨Q,out,left⟩:=s
  dsimp only at q1 q2 o l
  rw[hB]at hj
  obtain⟨b,hb⟩:=cg (xs:=B) (i:=(j:Int)) (by omega) (by omega)
  obtain⟨g,hg⟩:=cg (xs:=goal) (i:=(j:Int)) (by omega) (by omega)
  have hlen:Q.length<=n:=eH n Q q1 λv hv=>kP hB ((q2 v).1 hv).2.1
  have hjQ:(j:Int)∉Q:=λh=>by have:=((q2 _).1 h).1;omega
  have hlf:=ua (row:=rowS x (j:Int)) (inn:=In B) (d:=λ_=>False)
  have hl16:=(pW wf (j:Int)).2.1
  obtain⟨left',hs,hsl⟩:=cu (xs:=left) (i:=(j:Int)) (lf (rowS x (j:Int)) (In B) (λ_=>False):Int) (by omega) (by omega)
  obtain⟨out',hso,hsol⟩:=cu (xs:=out) (i:=(j:Int)) true (by omega) (by omega)
  obtain⟨ol,hol⟩:=cg (xs:=left) (i:=(j:Int)) (by omega) (by omega)
  unfold dB
  dsimp only
  simp only[hb,gs,hg,andE,qG wf hB (show 0<=(j:Int) by omega) (show(j:Int)<n by omega),hs,hso,hol,o.2 (j:Int) (by omega) (by omega),app1 (show Q.length<=10000000000 by omega) (show Nat.ble 8 1024=true from rfl)]
  have hleft:∀(l2:List Int),l2=(bif b then left' else left)->(l2.length=n/\∀w:Int,w<((j+1:Nat):Int)->In B w->idx l2 w=some (lf (rowS x w) (In B) (λ_=>False):Int)):=λl2 e=>by
   subst e
   cases b with
   | true=>
    refine⟨by dsimp only[cond_true];omega,λw hw hi=>?_⟩
    dsimp only[cond_true]
    rw[cC hs]
    by_cases e:w=(j:Int)
    · rw[if_pos e,e]
    · rw[if_neg e];exact l.2 w (by omega) hi
   | false=>
    refine⟨l.1,λw hw hi=>?_⟩
    by_cases e:w=(j:Int)
    · subst e;unfold In at hi;rw[hb]at hi;cases hi
    · exact l.2 w (by omega) hi
  have hin:In B (j:Int)↔b=true:=by unfold In;rw[hb];simp
  have hig:In goal (j:Int)↔g=true:=by unfold In;rw[hg];simp
  cases hbg:(b&&g) with
  | true=>
   have hb1:b=true:=by revert hbg;cases b <;> simp
   have hg1:g=true:=by revert hbg;cases b <;> simp
   subst hb1 hg1
   simp only[cond_true,gs]
   refine⟨_,rfl,?_,?_,⟨by dsimp only;omega,?_⟩,hleft _ rfl⟩
   · dsimp only
     rw[List.nodup_append]
     exact⟨q1,by simp,λa ha c hc=>by simp at hc;subst hc;exact λe=>hjQ (e ▸ ha)⟩
   · intro v
     dsimp only
     rw[vS,vL,q2 v]
     constructor
     · rintro(⟨h1,h2,h3⟩ | rfl)
       · exact⟨by omega,h2,h3⟩
       · exact⟨by omega,hin.2 rfl,hig.2 rfl⟩
     · rintro⟨h1,h2,h3⟩
       by_cases e:v=(j:Int)
       · exact .inr e
       · exact .inl ⟨by omega,h2,h3⟩
   · intro v v0 v1
     dsimp only
     rw[cC hso]
     by_cases e:v=(j:Int)
     · subst e;simp
     · rw[if_neg e,o.2 v v0 v1];simp[e]
  | false=>
   have hq:∀v,v∈Q↔v<((j+1:Nat):Int)/\In B v/\In goal v:=λv=>by
    rw[q2 v]
    constructor
    · rintro⟨h1,h2,h3⟩;exact⟨by omega,h2,h3⟩
    · rintro⟨h1,h2,h3⟩
      refine⟨?_,h2,h3⟩
      have:v≠(j:Int):=λe=>by
       subst e
       rw[hin.1 h2,hig.1 h3]at hbg
       cases hbg
      omega
   cases b with
   | true=>
    simp only[cond_true,cond_false,gs]
    exact⟨_,rfl,q1,hq,o,hleft _ rfl⟩
   | false=>
    simp only[cond_false,gs]
    exact⟨_,rfl,q1,hq,o,hleft _ rfl⟩)
 obtain⟨Q,out,left⟩:=s
 obtain⟨q1,q2,o,l⟩:=h2
 dsimp only at q1 q2 o l
 have hz:∀w,lf (rowS x w) (In B) (λy=>y∈([]:List Int))=lf (rowS x w) (In B) (λ_=>False):=λw=>ec λy _ _=>by simp
 refine⟨Q,out,left,h1,⟨q1,λv hv=>((q2 v).1 hv).2.1,λk v hk=> .inl ((q2 v).1 (t0 hk)).2.2⟩,λv hb hg=>(q2 v).2 ⟨by have:=kP hB hb;omega,hb,hg⟩,λv hv hq=>⟨λ_ y _ _ h=>by simp at h,λho=>?_⟩,o,l.1,λw hw hq=>?_⟩
 · obtain⟨u,e1,e2⟩:=hN v hv
   exact⟨u,e1,e2,by simp⟩
 · rw[hz];exact l.2 w (by have:=kP hB hw;omega) hw
theorem tH {goal:List Bool}(hG:goal.length=n) (p:Bool) (hN:Par.NoDead (gS x) (In B)):∃A,fQ x B (b2i p) goal=some A/\A.length=n/\Par.IsAttr (gS x) (In B) p (In goal) (In A):=by
 have hn:=wf.n256
 obtain⟨Q0,out0,left0,i1,i2,i3,i4,i5,i6⟩:=rX wf hB hG (p:=p) hN
 unfold fQ
 rw[hB,cE (by omega) rfl,gs,cE (by omega) rfl,gs]
 rw[hB]at i1
 rw[i1,gs,bK]
 dsimp only
 obtain⟨o,w1,w2⟩:=cw (f:=eB x B (b2i p)) (λj (s:List Int×Int×List Bool×List Int)=>s.2.1=(j:Int)/\j<=s.1.length/\Cert (rowS x) (ownL x.owner) (In B) p (In goal) s.1/\(∀v,In B v->In goal v->v∈s.1)/\Trap (rowS x) (ownL x.owner) (In B) p s.1 (λ_ y=>y∈s.1.take j) /\
  (s.2.2.1.length=n/\∀v:Int,0<=v->v<n->idx s.2.2.1 v=some (decide (v∈s.1)))/\(s.2.2.2.length=n/\∀w,In B w->w∉s.1->idx s.2.2.2 w=some (lf (rowS x w) (In B) (λy=>y∈s.1.take j):Int))) (λ_=>False)
  (λs=>∃Q,Cert (rowS x) (ownL x.owner) (In B) p (In goal) Q/\(∀v,In B v->In goal v->v∈Q)/\Trap (rowS x) (ownL x.owner) (In B) p Q (λ_ y=>y∈Q)/\(s.2.2.1.length=n/\∀v:Int,0<=v->v<n->idx s.2.2.1 v=some (decide (v∈Q)))) n (λj s ⟨a1,a2,a3,a4,a5,a6,a7⟩=>by
  obtain⟨Q,i,out,left⟩:=s
  dsimp only at a1 a2 a3 a4 a5 a6 a7
  subst a1
  have hQn:=rn hB a3
  unfold eB
  dsimp only
  by_cases hlt:(j:Int)<(Q.length:Int)
  · have hjl:j<Q.length:=by omega
    have hu:Q[j]? =some Q[j]:=hV hjl
    have hQe:Q=Q.take j++Q[j]::Q.drop (j+1):=by rw[← List.drop_eq_getElem_cons hjl,List.take_append_drop]
    generalize Q[j]=u at hu hQe
    obtain⟨u0,u1⟩:=kP hB (a3.mem u (t0 hu))
    obtain⟨P,hP⟩:=cg (xs:=x.prev) u0 (by rw[wf.lv];exact u1)
    obtain⟨p1,p2,p3⟩:=wf.prev u P hP
    simp only[hlt,decide_true,cond_true,bG,hu,gs]
    have hm0:Mid (rowS x) (ownL x.owner) (In B) p (In goal) (Q.take j) u [] Q:=by
     have:=Mid.first (T:=Q.take j) (u:=u) (R:=Q.drop (j+1)) (hQe ▸ a3) (hQe ▸ a5)
     rwa [← hQe]at this
    obtain⟨oi,v1,v2⟩:=cw (f:=cZ x B (b2i p) u) (λk (s:List Int×Int×List Bool×List Int)=>s.2.1=(k:Int)/\k<=P.length/\Mid (rowS x) (ownL x.owner) (In B) p (In goal) (Q.take j) u (P.take k) s.1 /\
     (s.2.2.1.length=n/\∀v:Int,0<=v->v<n->idx s.2.2.1 v=some (decide (v∈s.1)))/\(s.2.2.2.length=n/\∀w,In B w->w∉s.1->idx s.2.2.2 w=some (lf (rowS x w) (In B) (dn (Q.take j) u (P.take k) w):Int))/\(∀v∈Q,v∈s.1)) (λ_=>False)
     (λs=>Mid (rowS x) (ownL x.owner) (In B) p (In goal) (Q.take j) u P s.1/\(s.2.2.1.length=n/\∀v:Int,0<=v->v<n->idx s.2.2.1 v=some (decide (v∈s.1)))/\(s.2.2.2.length=n/\∀w,In B w->w∉s.1->idx s.2.2.2 w=some (lf (rowS x w) (In B) (dn (Q.take j) u P w):Int))/\(∀v∈Q,v∈s.1)) P.length (λk s ⟨b1,b2,b3,b4,b5,b6⟩=>by
     obtain⟨Q',i',out',left'⟩:=s
     dsimp only at b1 b2 b3 b4 b5 b6
     subst b1
     by_cases hk:k<P.length
     · have hv:P[k]? =some P[k]:=hV hk
       generalize P[k]=v at hv
       have hQ'n:=rn hB b3.cert
       obtain⟨Q2,o2,l2,c1,c2,c3,c4,c5⟩:=rz wf hB b3 (oN p1 hv) hP hv (by omega) b4 b5
       refine⟨_,c1,by omega,rfl,by omega,?_,c3,?_,λv hv=>c5 v (b6 v hv)⟩
       · rw[gh hv];exact c2
       · rw[gh hv];exact c4
     · unfold cZ
       rw[hP,gs]
       have:¬(k:Int)<(P.length:Int):=by omega
       dsimp only
       simp only[this,decide_false,cond_false]
       have e:P.take k=P:=List.take_of_length_le (by omega)
       rw[e]at b3 b5
       exact⟨_,rfl,b3,b4,b5,b6⟩) (2 ^ 64) 0 (Q,0,out,left) (by omega) ⟨rfl,by omega,by simpa using hm0,a6,⟨a7.1,λw hw hq=>by
        rw[a7.2 w hw hq]
        congr 2
        exact ec λy _ _=>(jZ (by simp)).symm⟩,λ_ h=>h⟩ (by omega)
    match oi,v2 with
    | .inr s,⟨c1,c2,c3,c4⟩=>
     obtain⟨Q',i',out',left'⟩:=s
     dsimp only at c1 c2 c3 c4
     have hwr:IntKind.i64.wrap ((j:Int)+1)=((j+1:Nat):Int):=by rw[wr' (by omega) (by omega)];omega
     rw[v1,gs,bK,hwr]
     have htk:Q'.take (j+1)=Q.take j++[u]:=by
      obtain⟨R,e⟩:=c1.hu
      have hjl:(Q.take j).length=j:=by rw[vO];omega
      rw[e,show Q.take j++u::R=(Q.take j++[u])++R from by simp,List.take_append_of_le_length (by rw[vK,hjl];simp),List.take_of_length_le (by rw[vK,hjl];simp)]
     have hlen:j+1<=Q'.length:=by
      obtain⟨R,e⟩:=c1.hu
      have hjl:(Q.take j).length=j:=by rw[vO];omega
      rw[e,vK,hjl,vN];omega
     have hall:∀v,In B v->u∈rowS x v->v∈P:=λv hv hu=>by
      rw[p3]
      unfold rowS at hu
      cases hr:idx x.next v with
      | none=>rw[hr]at hu;simp at hu
      | some r=>
       cases hk:idx x.pick v with
       | none=>rw[hr,hk]at hu;simp at hu
       | some k=>rw[hr,hk]at hu;exact⟨r,rfl,(List.mem_filter.1 hu).1⟩
     have hjn:j<n:=by omega
     refine⟨_,rfl,hjn,rfl,hlen,c1.cert,λv hb hg=>c4 v (a4 v hb hg),?_,c2,c3.1,λw hw hq=>?_⟩
     · dsimp only
       rw[htk];exact c1.last hall
     · dsimp only
       dsimp only at hq
       rw[c3.2 w hw hq,htk]
       congr 2
       exact ec λy hy _=>by
        unfold dn
        rw[vS,vL]
        constructor
        · rintro(h | ⟨h,_⟩)
          · exact .inl h
          · exact .inr h
        · rintro(h | h)
          · exact .inl h
          · exact .inr ⟨h,hall w hw (h ▸ hy)⟩
  · simp only[hlt,decide_false,cond_false]
    rw[List.take_of_length_le (by omega)]at a5
    exact⟨_,rfl,Q,a3,a4,a5,a6⟩) (2 ^ 64) 0 (Q0,0,out0,left0) (by omega) ⟨rfl,by omega,i2,i3,by simpa using i4,i5,by simpa using i6⟩ (by omega)
 match o,w2 with
 | .inr s,⟨Q,k1,k2,k3,k4⟩=>
  rw[w1,gs,bK]
  refine⟨_,rfl,k4.1,?_⟩
  have ha:=k1.attr (pri:=priL x.prio) k2 k3
  have e:(λv=>v∈Q)=In s.2.2.1:=by
   funext v
   apply propext
   constructor
   · intro hv
     obtain⟨v0,v1⟩:=kP hB (k1.mem v hv)
     unfold In;rw[k4.2 v v0 v1];simp[hv]
   · intro hv
     have hr:=ck hv
     unfold In at hv
     rw[k4.2 v hr.1 (by omega)]at hv
     simpa using hv
  rw[← e];exact ha
end
end Go.Proofs.YtpcjbkgbnoocaaaGreat
set_option linter.unusedVariables false
set_option linter.unusedSimpArgs false
namespace Go.Proofs.YtpcjbkgbnoocaaaGreat
open Go Go.Wk Go.Proofs
structure WfI (x:solver) (n:Nat):Prop where
 n256:n<=256
 lo:x.game.Arena.Owner.length=n
 lp:x.game.Prio.length=n
 ln:x.game.Arena.Next.length=n
 lv:x.preds.length=n
 ow:∀v o,idx x.game.Arena.Owner v=some o->o=0\/o=1
 row:∀v r,idx x.game.Arena.Next v=some r->r.length<=16/\r.Nodup/\∀u∈r,0<=u/\u<n
 prev:∀u P,idx x.preds u=some P->P.Nodup/\P.length<=100000/\∀v,v∈P↔∃r,idx x.game.Arena.Next v=some r/\u∈r
def rowI (a:Arena) (v:Int):List Int:=(idx a.Next v).getD []
def gI (g:Parity):Par.Gm:=mkG (rowI g.Arena) (ownL g.Arena.Owner) (priL g.Prio)
theorem eV {a:Arena}{v:Int}{r:List Int}(hr:idx a.Next v=some r):rowI a v=r:=by unfold rowI;rw[hr];rfl
theorem uP {O:List Int}{v o:Int}{p:Bool}(h:idx O v=some o) (ho:o=0\/o=1):(o !=b2i p)=decide (¬ownL O v=p):=by
 have:=sK (p:=p) h ho
 rw[bne,this]
 by_cases h:ownL O v=p <;> simp[h]
section
variable {x:solver}{n:Nat}(wf:WfI x n){B:List Bool}(hB:B.length=n)
include wf
theorem sN (v:Int):(rowI x.game.Arena v).Nodup/\(rowI x.game.Arena v).length<=16/\∀u∈rowI x.game.Arena v,0<=u/\u<n:=by
 unfold rowI
 cases hr:idx x.game.Arena.Next v with
 | none=>simp
 | some r=>
  obtain⟨h1,h2,h3⟩:=wf.row v r hr
  exact⟨h2,h1,h3⟩
include hB
omit wf in
theorem nZ {v:Int}(h:In B v):0<=v/\v<n:=by
 have:=ck h
 rw[hB]at this
 exact this
theorem uj {v:Int}{r left:List Int}(hr:idx x.game.Arena.Next v=some r) (hl:left.length=n) (h0:idx left v=some 0):∃left',cntM (cz B v r) r.length 0 left=some (.inr left')/\left'.length=n /\
 idx left' v=some (lf r (In B) (λ_=>False):Int)/\∀w,w≠v->idx left' w=idx left w:=by
 classical
 obtain⟨r1,r2,r3⟩:=wf.row v r hr
 have hv:=ck h0
 obtain⟨s,h1,h2⟩:=ca (f:=cz B v r) (λj (s:List Int)=>s.length=n/\idx s v=some (((r.take j).filter (λy=>decide (In B y))).length:Int)/\∀w,w≠v->idx s w=idx left w) r.length (s:=left) ⟨hl,by simpa using h0,λ_ _=>rfl⟩ (λj s hj ⟨q1,q2,q3⟩=>by
  have hu:r[j]? =some r[j]:=hV hj
  generalize r[j]=u at hu
  obtain⟨u0,u1⟩:=r3 u (t0 hu)
  obtain⟨b,hb⟩:=cg (xs:=B) u0 (by omega)
  have hle:((r.take j).filter (λy=>decide (In B y))).length<=j:=Nat.le_trans (List.length_filter_le _ _) (by rw[vO];omega)
  obtain⟨s',hs,hsl⟩:=cu (xs:=s) (i:=v) (((r.take j).filter (λy=>decide (In B y))).length+1:Int) (by omega) (by omega)
  unfold cz
  simp only[bG,hu,gs,hb,q2]
  rw[wr' (by omega) (by omega)]
  have htk:(r.take (j+1)).filter (λy=>decide (In B y))=(r.take j).filter (λy=>decide (In B y))++(if b then[u] else[]):=by
   rw[gh hu,List.filter_append];congr 1
   have:In B u↔b=true:=by unfold In;rw[hb];simp
   cases b with
   | true=>simp[this]
   | false=>simp[this]
  cases b with
  | true=>
   simp only[cond_true,hs,gs]
   refine⟨_,rfl,by omega,?_,λw hw=>?_⟩
   · rw[cC hs,if_pos rfl,htk];simp
   · rw[cC hs,if_neg hw];exact q3 w hw
  | false=>
   simp only[cond_false,gs]
   exact⟨_,rfl,q1,by rw[htk];simpa using q2,q3⟩)
 rw[List.take_length]at h2
 refine⟨s,h1,h2.1,?_,h2.2.2⟩
 rw[h2.2.1]
 unfold lf
 congr 3
 apply List.filter_congr
 intro u _
 simp
def LI (x:solver) (B:List Bool) (left:List Int) (w:Int) (d:Int->Prop):Prop:=idx left w=some (lf (rowI x.game.Arena w) (In B) d:Int)\/(idx left w=some 0/\∀y∈rowI x.game.Arena w,In B y->¬d y)
omit wf hB in
theorem LI.congr {left:List Int}{w:Int}{d d':Int->Prop}(h:LI x B left w d) (e:∀y∈rowI x.game.Arena w,In B y->(d y↔d' y)):LI x B left w d':=by
 rcases h with h | ⟨h1,h2⟩
 · left;rw[h];congr 2;exact ec e
 · right;exact⟨h1,λy hy hi hd=>h2 y hy hi ((e y hy hi).2 hd)⟩
theorem qT {goal:Int->Prop}{p:Bool}{T L Q R:List Int}{u v:Int}{out:List Bool}{left:List Int}(hm:Mid (rowI x.game.Arena) (ownL x.game.Arena.Owner) (In B) p goal T u L Q) (hR:Q=T++u::R) (hvL:v∉L)
 {P:List Int} {j:Nat} (hP:idx x.preds u=some P) (hj:P[j]? =some v) (hQ:Q.length<=100000)
 (ho:out.length=n/\∀v:Int,0<=v->v<n->idx out v=some (decide (v∈Q))) (hl:left.length=n/\∀v,In B v->v∉Q->¬ownL x.game.Arena.Owner v=p->LI x B left v (dn T u L v)):
 ∃R' out' left',cW x (b2i p) B P (j:Int) (R,out,left)=some (.inr (.inr (R',out',left')))/\Mid (rowI x.game.Arena) (ownL x.game.Arena.Owner) (In B) p goal T u (L++[v]) (T++u::R') /\
  (out'.length=n/\∀v:Int,0<=v->v<n->idx out' v=some (decide (v∈T++u::R')))/\(left'.length=n/\∀w,In B w->w∉T++u::R'->¬ownL x.game.Arena.Owner w=p->LI x B left' w (dn T u (L++[v]) w))/\(∀v∈Q,v∈T++u::R'):=by
 have hn:=wf.n256
 obtain⟨p1,p2,p3⟩:=wf.prev u P hP
 obtain⟨r,hr,hur⟩:=(p3 v).1 (t0 hj)
 have hre:=eV hr
 obtain⟨v0,v1⟩:=ck hr
 rw[wf.ln]at v1
 obtain⟨b,hb⟩:=cg (xs:=B) v0 (by omega)
 obtain⟨w,hw⟩:=cg (xs:=x.game.Arena.Owner) v0 (by rw[wf.lo];exact v1)
 have hRl:R.length<=100000:=by
  have:=congrArg List.length hR
  rw[vK,vN]at this;omega
 unfold cW
 rw[bG,hj,gs,ho.2 v v0 v1,gs,hb]
 dsimp only
 simp only[gs,orE]
 have hadd:∀left2:List Int,(left2.length=n/\∀w,w≠v->idx left2 w=idx left w)->In B v->v∉Q->(ownL x.game.Arena.Owner v=p\/lf (rowI x.game.Arena v) (In B) (λy=>y∈T\/y=u)=0) ->
  ∃R' out' left',(ds (setI out v true) λy59=>ds (appS 8 R [v]) λx114=>(some (.inr (.inr (x114,y59,left2))):Option (List Bool⊕((List Int×List Bool×List Int)⊕(List Int×List Bool×List Int)))))=some (.inr (.inr (R',out',left')))/\Mid (rowI x.game.Arena) (ownL x.game.Arena.Owner) (In B) p goal T u (L++[v]) (T++u::R') /\
  (out'.length=n/\∀v:Int,0<=v->v<n->idx out' v=some (decide (v∈T++u::R')))/\(left'.length=n/\∀w,In B w->w∉T++u::R'->¬ownL x.game.Arena.Owner w=p->LI x B left' w (dn T u (L++[v]) w))/\(∀v∈Q,v∈T++u::R'):=λleft2 ⟨l1,l2⟩ hi hq hc=>by
  obtain⟨out',hso,hsol⟩:=cu (xs:=out) (i:=v) true v0 (by omega)
  have hQ':T++u::(R++[v])=Q++[v]:=by rw[hR];simp
  refine⟨R++[v],out',left2,by rw[hso,gs,app1 (by omega) rfl,gs],?_,⟨by omega,λy y0 y1=>?_⟩,⟨l1,λw hw hq' hop=>?_⟩,λy hy=>by rw[hQ'];exact List.mem_append_left _ hy⟩
  · rw[hQ'];exact hm.add hi hq (hre ▸ hur) hc
  · rw[cC hso,hQ']
    by_cases e:y=v
    · subst e;simp
    · rw[if_neg e,ho.2 y y0 y1];simp[e]
  · rw[hQ',vS,vL,not_or]at hq'
    have:=hl.2 w hw hq'.1 hop
    unfold LI at this ⊢
    rw[l2 w hq'.2]
    exact LI.congr (left:=left) this λy _ _=>(fF hq'.2).symm
 by_cases hsk:(decide (v∈Q) || !b)=true
 · rw[hsk,cond_true]
   have hcond:¬In B v\/v∈Q\/u∉rowI x.game.Arena v:=by
    simp only[Bool.or_eq_true,Bool.not_eq_true',decide_eq_true_eq]at hsk
    rcases hsk with h | h
    · exact .inr (.inl h)
    · left;unfold In;rw[hb,h];simp
   subst hR
   refine⟨R,out,left,rfl,hm.skip hcond,ho,⟨hl.1,λy hy hq hop=>?_⟩,λ_ h=>h⟩
   refine LI.congr (hl.2 y hy hq hop) λz hz _=>?_
   by_cases e:y=v
   · subst e
     rcases hcond with h | h | h
     · exact absurd hy h
     · exact absurd h hq
     · have:z≠u:=λe=>h (e ▸ hz)
       unfold dn;simp[this]
   · exact(fF e).symm
 · simp only[Bool.not_eq_true,Bool.or_eq_false_iff,Bool.not_eq_false',decide_eq_false_iff_not]at hsk
   obtain⟨h2,h1⟩:=hsk
   subst h1
   have hi:In B v:=hb
   have hu:u∈rowI x.game.Arena v:=hre ▸ hur
   simp only[h2,decide_false,vJ,Bool.or_false,cond_false,hw,gs,uP hw (wf.ow v w hw)]
   by_cases hop:ownL x.game.Arena.Owner v=p
   · have:decide (¬ownL x.game.Arena.Owner v=p)=false:=by simp[hop]
     simp only[this,cond_false]
     exact hadd left ⟨hl.1,λ_ _=>rfl⟩ hi h2 (.inl hop)
   · have:decide (¬ownL x.game.Arena.Owner v=p)=true:=by simp[hop]
     simp only[this,cond_true]
     have hlf:lf (rowI x.game.Arena v) (In B) (λy=>y∈T\/y=u)+1=lf (rowI x.game.Arena v) (In B) (dn T u L v):=by
      rw[qq (sN wf v).1 hu hm.u_in.2.2 hm.u_in.2.1]
      exact ec λy _ _=>(jZ hvL).symm
     have hlle:lf (rowI x.game.Arena v) (In B) (dn T u L v)<=16:=Nat.le_trans ua (sN wf v).2.1
     -- the count, made or known
     have hcount:∃l7,(ds (idx left v) λx69=>(bif (x69==0) then
      ds (idx x.game.Arena.Next v) λx79=>
      ds (cntM (cz B v x79) x79.length 0 left) λq9=>
      aft (λr=>none) (λs10=>
       some (s10:(List Int))) q9
      else
       some left))=some l7/\l7.length=n/\idx l7 v=some (lf (rowI x.game.Arena v) (In B) (dn T u L v):Int)/\∀w,w≠v->idx l7 w=idx left w:=by
      have hz:=hl.2 v hi h2 hop
      by_cases h0:idx left v=some 0
      · obtain⟨l7,k1,k2,k3,k4⟩:=uj wf hB hr hl.1 h0
        refine⟨l7,?_,k2,?_,k4⟩
        · simp only[h0,gs,hr,k1,bK]
          rfl
        · rw[k3,hre]
          congr 2
          rcases hz with h | ⟨_,h⟩
          · rw[h0]at h
            have:=Option.some.inj h
            omega
          · exact ec λy hy hi=>⟨λh=>h.elim,λhd=>h y (by rw[hre];exact hy) hi hd⟩
      · rcases hz with h | ⟨h,_⟩
        · refine⟨left,?_,hl.1,h,λ_ _=>rfl⟩
          have:((lf (rowI x.game.Arena v) (In B) (dn T u L v):Int)==0)=false:=by
           have:lf (rowI x.game.Arena v) (In B) (dn T u L v)≠0:=λe=>h0 (by rw[h,e];rfl)
           simp[this]
          simp only[h,gs,this,cond_false]
        · exact absurd h h0
     obtain⟨l7,c1,c2,c3,c4⟩:=hcount
     have hsplit:∀{β:Type} (f:List Int->Option β),(ds (idx left v) λx69=>ds (bif (x69==0) then
      ds (idx x.game.Arena.Next v) λx79=>
      ds (cntM (cz B v x79) x79.length 0 left) λq9=>
      aft (λr=>none) (λs10=>
       some (s10:(List Int))) q9
      else
       some left) f)=ds (some l7) f:=λf=>by rw[← c1];cases idx left v <;> rfl
     rw[hsplit,gs,c3,gs,gs]
     have hwrl:IntKind.i64.wrap ((lf (rowI x.game.Arena v) (In B) (dn T u L v):Int)-1)=(lf (rowI x.game.Arena v) (In B) (λy=>y∈T\/y=u):Int):=by rw[wr' (by omega) (by omega)];omega
     obtain⟨l8,hs,hsl⟩:=cu (xs:=l7) (i:=v) (lf (rowI x.game.Arena v) (In B) (λy=>y∈T\/y=u):Int) v0 (by omega)
     have hnew:idx l8 v=some (lf (rowI x.game.Arena v) (In B) (λy=>y∈T\/y=u):Int):=by rw[cC hs,if_pos rfl]
     have hoth:∀w,w≠v->idx l8 w=idx left w:=λw hw=>by rw[cC hs,if_neg hw,c4 w hw]
     rw[hwrl,hs,gs,hnew,gs]
     by_cases hc:lf (rowI x.game.Arena v) (In B) (λy=>y∈T\/y=u)=0
     · have:decide ((0:Int)<(lf (rowI x.game.Arena v) (In B) (λy=>y∈T\/y=u):Int))=false:=by simp[hc]
       rw[this,cond_false]
       exact hadd l8 ⟨by omega,hoth⟩ hi h2 (.inr hc)
     · have:decide ((0:Int)<(lf (rowI x.game.Arena v) (In B) (λy=>y∈T\/y=u):Int))=true:=by simp;omega
       rw[this,cond_true]
       subst hR
       refine⟨R,out,l8,rfl,hm.stay hop hc,ho,⟨by omega,λw hw hq hop'=>?_⟩,λ_ h=>h⟩
       by_cases e:w=v
       · subst e
         left
         rw[hnew]
         congr 2
         exact ec λy _ _=>qt.symm
       · have:=hl.2 w hw hq hop'
         unfold LI at this ⊢
         rw[hoth w e]
         exact LI.congr (left:=left) this λy _ _=>(fF e).symm
end
end Go.Proofs.YtpcjbkgbnoocaaaGreat
