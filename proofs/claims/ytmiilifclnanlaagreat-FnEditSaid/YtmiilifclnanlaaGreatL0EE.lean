/- Games of parity: dominions, attractors. Plain law, no program in sight. -/
import Derived.Test.YtmiilifclnanlaaGreatLawEE
import Derived.Test.YtmiilifclnanlaaGreatLwEE
set_option linter.unusedVariables false
set_option linter.unusedSimpArgs false
namespace Go.Proofs.YtmiilifclnanlaaGreat.Par
open Classical
structure Gm where
 own:Int→Bool
 pri:Int→Int
 E:Int→Int→Prop
variable (G:Gm)
def oddP (d:Int):Bool:=decide (d % 2=1)
def Play (p:Bool) (D:Int→Prop) (σ:Int→Int) (π:Nat→Int):Prop:=∀n,D (π n)∧G.E (π n) (π (n+1))∧(G.own (π n)=p→π (n+1)=σ (π n))
def Wins (p:Bool) (π:Nat→Int):Prop:=∃d,oddP d=p∧(∀N,∃n,N≤n∧G.pri (π n)=d)∧∃N,∀n,N≤n→G.pri (π n)≤d
def Dom (X:Int→Prop) (p:Bool) (D:Int→Prop):Prop:=∃σ:Int→Int,(∀v,D v→X v)∧(∀v,D v→G.own v=p→G.E v (σ v)∧D (σ v))∧(∀v u,D v→¬G.own v=p→G.E v u→X u→D u)∧∀π,Play G p D σ π→Wins G p π
def NoDead (X:Int→Prop):Prop:=∀v,X v→∃u,G.E v u∧X u
structure IsAttr (X:Int→Prop) (p:Bool) (S A:Int→Prop):Prop where
 sub:∀v,A v→X v
 base:∀v,X v→S v→A v
 rank:∃r:Int→Nat,∀v,A v→S v∨(G.own v=p∧∃u,G.E v u∧A u∧r u<r v)∨(¬G.own v=p∧∀u,G.E v u→X u→A u∧r u<r v)
 mine:∀v u,X v→¬A v→G.own v=p→G.E v u→X u→¬A u
 yours:∀v,X v→¬A v→¬G.own v=p→∃u,G.E v u∧X u∧¬A u
def Mn (X A:Int→Prop):Int→Prop:=fun v=>X v∧¬A v
variable {G}{X:Int→Prop}{p:Bool}{S A D D':Int→Prop}
theorem Wins.tail {π:Nat→Int}(k:Nat) (h:Wins G p (fun n=>π (n+k))):Wins G p π:=by
 obtain⟨d,h1,h2,N,h3⟩:=h
 refine⟨d,h1,fun M=>?_,N+k,fun n hn=>?_⟩
 · obtain⟨n,hn,he⟩:=h2 M
   exact⟨n+k,by omega,he⟩
 · have:=h3 (n-k) (by omega)
   dsimp only at this
   rwa [show n-k+k=n from by omega]at this
theorem Wins.not_both {π:Nat→Int}(h:Wins G p π) (h':Wins G (!p) π):False:=by
 obtain⟨d,a1,a2,N,a3⟩:=h
 obtain⟨e,b1,b2,M,b3⟩:=h'
 obtain⟨n,n1,n2⟩:=a2 M
 obtain⟨m,m1,m2⟩:=b2 N
 have:=b3 n n1
 have:=a3 m m1
 have:d=e:=by omega
 subst this
 rw[a1]at b1
 cases p <;> cases b1
theorem Play.tail {σ:Int→Int}{π:Nat→Int}(h:Play G p D σ π) (k:Nat):Play G p D σ (fun n=>π (n+k)):=fun n=>by
 have:=h (n+k)
 rwa [show n+k+1=n+1+k from by omega]at this
theorem Dom.disj (h:Dom G X p D) (h':Dom G X (!p) D'){v:Int}(hv:D v) (hv':D' v):False:=by
 obtain⟨σ,a1,a2,a3,a4⟩:=h
 obtain⟨τ,b1,b2,b3,b4⟩:=h'
 let f:Int→Int:=fun v=>if G.own v=p then σ v else τ v
 let π:Nat→Int:=fun n=>Nat.rec v (fun _ x=>f x) n
 have hs:∀n,π (n+1)=f (π n):=fun n=>rfl
 have key:∀w,D w→D' w→G.E w (f w)∧D (f w)∧D' (f w):=fun w hw hw'=>by
  by_cases ho:G.own w=p
  · have e:f w=σ w:=if_pos ho
    obtain⟨k1,k2⟩:=a2 w hw ho
    rw[e]
    exact⟨k1,k2,b3 w _ hw' (by rw[ho];cases p <;> simp) k1 (a1 _ k2)⟩
  · have e:f w=τ w:=if_neg ho
    obtain⟨k1,k2⟩:=b2 w hw' (by revert ho;cases G.own w <;> cases p <;> simp)
    rw[e]
    exact⟨k1,a3 w _ hw ho k1 (b1 _ k2),k2⟩
 have inv:∀n,D (π n)∧D' (π n):=fun n=>by
  induction n with
  | zero=>exact⟨hv,hv'⟩
  | succ n ih=>
   obtain⟨_,k2,k3⟩:=key _ ih.1 ih.2
   rw[hs];exact⟨k2,k3⟩
 refine(a4 π fun n=>⟨(inv n).1,by rw[hs];exact(key _ (inv n).1 (inv n).2).1,fun ho=>by rw[hs];exact if_pos ho⟩).not_both (b4 π fun n=>⟨(inv n).2,by rw[hs];exact(key _ (inv n).1 (inv n).2).1,fun ho=>by rw[hs];exact if_neg (by rw[ho];cases p <;> simp)⟩)
theorem Dom.empty:Dom G X p (fun _=>False):=⟨id,fun _ h=>h.elim,fun _ h=>h.elim,fun _ _ h=>h.elim,fun π h=>(h 0).1.elim⟩
theorem Dom.congr (h:Dom G X p D) (e:∀v,D v↔D' v):Dom G X p D':=by
 have:D=D':=funext fun v=>propext (e v)
 exact this ▸ h
theorem descent {r:Nat→Nat}(h:∀n,r (n+1)<r n):False:=by
 have:∀n,r n+n≤r 0:=fun n=>by
  induction n with
  | zero=>omega
  | succ n ih=>have:=h n;omega
 have:=this (r 0+1)
 omega
theorem Dom.grow (h1:Dom G X p D) (hA:IsAttr G X p D A) (h2:Dom G (Mn X A) p D'):Dom G X p (fun v=>A v∨D' v):=by
 obtain⟨σ,a1,a2,a3,a4⟩:=h1
 obtain⟨τ,b1,b2,b3,b4⟩:=h2
 obtain⟨r,hr⟩:=hA.rank
 have hDA:∀v,D v→A v:=fun v hv=>hA.base v (a1 v hv) hv
 let f:Int→Int:=fun v=>if D v then σ v else if h:∃u,G.E v u∧A u∧r u<r v then h.choose else τ v
 have fD:∀v,D v→f v=σ v:=fun v hv=>if_pos hv
 have fA:∀v,A v→¬D v→G.own v=p→G.E v (f v)∧A (f v)∧r (f v)<r v:=fun v hv hd ho=>by
  rcases hr v hv with h | ⟨_,h⟩ | ⟨h,_⟩
  · exact absurd h hd
  · have e:f v=h.choose:=by show(if D v then _ else _)=_;rw[if_neg hd,dif_pos h]
    rw[e];exact h.choose_spec
  · exact absurd ho h
 have fT:∀v,D' v→G.own v=p→f v=τ v:=fun v hv ho=>by
  obtain⟨hx,ha⟩:=b1 v hv
  have:¬∃u,G.E v u∧A u∧r u<r v:=fun⟨u,k1,k2,_⟩=>hA.mine v u hx ha ho k1 (hA.sub u k2) k2
  show(if D v then _ else _)=_
  rw[if_neg (fun h=>ha (hDA v h)),dif_neg this]
 refine⟨f,?_,?_,?_,?_⟩
 · rintro v (h | h)
   · exact hA.sub v h
   · exact(b1 v h).1
 · rintro v (h | h) ho
   · by_cases hd:D v
     · rw[fD v hd];exact⟨(a2 v hd ho).1,.inl (hDA _ (a2 v hd ho).2)⟩
     · exact⟨(fA v h hd ho).1,.inl (fA v h hd ho).2.1⟩
   · rw[fT v h ho];exact⟨(b2 v h ho).1,.inr (b2 v h ho).2⟩
 · rintro v u (h | h) ho he hx
   · by_cases hd:D v
     · exact .inl (hDA u (a3 v u hd ho he hx))
     · rcases hr v h with h' | ⟨h',_⟩ | ⟨_,h'⟩
       · exact absurd h' hd
       · exact absurd h' ho
       · exact .inl (h' u he hx).1
   · by_cases ha:A u
     · exact .inl ha
     · exact .inr (b3 v u h ho he ⟨hx,ha⟩)
 · intro π hπ
   have hX:∀n,X (π n):=fun n=>by
    rcases(hπ n).1 with h | h
    · exact hA.sub _ h
    · exact(b1 _ h).1
   by_cases hD:∃n,D (π n)
   · obtain⟨n,hn⟩:=hD
     have st:∀k,D (π (k+n)):=fun k=>by
      induction k with
      | zero=>rwa [Nat.zero_add]
      | succ k ih=>
       have e:k+1+n=k+n+1:=by omega
       by_cases ho:G.own (π (k+n))=p
       · have:=(hπ (k+n)).2.2 ho
         rw[fD _ ih]at this
         rw[e,this]
         exact(a2 _ ih ho).2
       · rw[e];exact a3 _ _ ih ho (hπ (k+n)).2.1 (hX _)
     refine Wins.tail n (a4 _ fun k=>⟨st k,?_,fun ho=>?_⟩)
     · have:=(hπ (k+n)).2.1
       rwa [show k+n+1=k+1+n from by omega]at this
     · have:=(hπ (k+n)).2.2 ho
       rw[fD _ (st k),show k+n+1=k+1+n from by omega]at this
       exact this
   · have hD:∀n,¬D (π n):=fun n h=>hD ⟨n,h⟩
     by_cases hA':∃n,A (π n)
     · obtain⟨n,hn⟩:=hA'
       have step:∀m,A (π m)→A (π (m+1))∧r (π (m+1))<r (π m):=fun m hm=>by
        by_cases ho:G.own (π m)=p
        · rw[(hπ m).2.2 ho];exact(fA _ hm (hD m) ho).2
        · rcases hr _ hm with h' | ⟨h',_⟩ | ⟨_,h'⟩
          · exact absurd h' (hD m)
          · exact absurd h' ho
          · exact h' _ (hπ m).2.1 (hX _)
       have st:∀k,A (π (k+n)):=fun k=>by
        induction k with
        | zero=>rwa [Nat.zero_add]
        | succ k ih=>rw[show k+1+n=k+n+1 from by omega];exact(step _ ih).1
       exact(descent (r:=fun k=>r (π (k+n))) fun k=>by
        have:=(step _ (st k)).2
        rwa [show k+n+1=k+1+n from by omega]at this).elim
     · have hT:∀n,D' (π n):=fun n=>(hπ n).1.resolve_left fun h=>hA' ⟨n,h⟩
       refine b4 π fun n=>⟨hT n,(hπ n).2.1,fun ho=>?_⟩
       rw[(hπ n).2.2 ho,fT _ (hT n) ho]
theorem Dom.lift (hA:IsAttr G X p S A) (h:Dom G (Mn X A) (!p) D):Dom G X (!p) D:=by
 obtain⟨τ,b1,b2,b3,b4⟩:=h
 refine⟨τ,fun v hv=>(b1 v hv).1,b2,fun v u hv ho he hx=>b3 v u hv ho he ⟨hx,?_⟩,b4⟩
 have ho':G.own v=p:=by revert ho;cases G.own v <;> cases p <;> simp
 exact hA.mine v u (b1 v hv).1 (b1 v hv).2 ho' he hx
theorem Dom.top {d:Int}(hN:NoDead G X) (hd:∀v,X v→G.pri v≤d) (hp:oddP d=p) (hA:IsAttr G X p (fun v=>G.pri v=d) A) (h:Dom G (Mn X A) p (Mn X A)):Dom G X p X:=by
 obtain⟨τ,b1,b2,b3,b4⟩:=h
 obtain⟨r,hr⟩:=hA.rank
 let f:Int→Int:=fun v=>if h:∃u,G.E v u∧A u∧r u<r v then h.choose else if A v then(if h:∃u,G.E v u∧X u then h.choose else v) else τ v
 have fT:∀v,Mn X A v→G.own v=p→f v=τ v:=fun v hv ho=>by
  have:¬∃u,G.E v u∧A u∧r u<r v:=fun⟨u,k1,k2,_⟩=>hA.mine v u hv.1 hv.2 ho k1 (hA.sub u k2) k2
  show(if h:_ then _ else _)=_
  rw[dif_neg this,if_neg hv.2]
 have fA:∀v,A v→¬G.pri v=d→G.own v=p→A (f v)∧r (f v)<r v:=fun v hv hd ho=>by
  rcases hr v hv with h | ⟨_,h⟩ | ⟨h,_⟩
  · exact absurd h hd
  · have e:f v=h.choose:=dif_pos h
    rw[e];exact h.choose_spec.2
  · exact absurd ho h
 refine⟨f,fun _ h=>h,fun v hv ho=>?_,fun v u _ _ _ hx=>hx,fun π hπ=>?_⟩
 · by_cases ha:A v
   · by_cases h:∃u,G.E v u∧A u∧r u<r v
     · have e:f v=h.choose:=dif_pos h
       rw[e];exact⟨h.choose_spec.1,hA.sub _ h.choose_spec.2.1⟩
     · have h2:=hN v hv
       have e:f v=h2.choose:=by
        show(if h:_ then _ else _)=_
        rw[dif_neg h,if_pos ha,dif_pos h2]
       rw[e];exact h2.choose_spec
   · rw[fT v ⟨hv,ha⟩ ho]
     have:=b2 v ⟨hv,ha⟩ ho
     exact⟨this.1,this.2.1⟩
 · have hX:∀n,X (π n):=fun n=>(hπ n).1
   by_cases hinf:∀N,∃n,N≤n∧G.pri (π n)=d
   · exact⟨d,hp,hinf,0,fun n _=>hd _ (hX n)⟩
   · obtain⟨N,hN'⟩:=Classical.not_forall.1 hinf
     have hne:∀n,N≤n→¬G.pri (π n)=d:=fun n hn h=>hN' ⟨n,hn,h⟩
     by_cases hA':∃n,N≤n∧A (π n)
     · obtain⟨n,hnN,hn⟩:=hA'
       have step:∀m,N≤m→A (π m)→A (π (m+1))∧r (π (m+1))<r (π m):=fun m hm' hm=>by
        by_cases ho:G.own (π m)=p
        · rw[(hπ m).2.2 ho];exact fA _ hm (hne m hm') ho
        · rcases hr _ hm with h' | ⟨h',_⟩ | ⟨_,h'⟩
          · exact absurd h' (hne m hm')
          · exact absurd h' ho
          · exact h' _ (hπ m).2.1 (hX _)
       have st:∀k,A (π (k+n)):=fun k=>by
        induction k with
        | zero=>rwa [Nat.zero_add]
        | succ k ih=>rw[show k+1+n=k+n+1 from by omega];exact(step _ (by omega) ih).1
       exact(descent (r:=fun k=>r (π (k+n))) fun k=>by
        have:=(step _ (by omega) (st k)).2
        rwa [show k+n+1=k+1+n from by omega]at this).elim
     · have hT:∀n,N≤n→Mn X A (π n):=fun n hn=>⟨hX n,fun h=>hA' ⟨n,hn,h⟩⟩
       refine Wins.tail N (b4 _ fun k=>⟨hT _ (by omega),?_,fun ho=>?_⟩)
       · have:=(hπ (k+N)).2.1
         rwa [show k+N+1=k+1+N from by omega]at this
       · have:=(hπ (k+N)).2.2 ho
         rw[fT _ (hT _ (by omega)) ho,show k+N+1=k+1+N from by omega]at this
         exact this
theorem NoDead.less (h:NoDead G X) (hA:IsAttr G X p S A):NoDead G (Mn X A):=fun v ⟨hx,ha⟩=>by
 by_cases ho:G.own v=p
 · obtain⟨u,k1,k2⟩:=h v hx
   exact⟨u,k1,k2,hA.mine v u hx ha ho k1 k2⟩
 · obtain⟨u,k1,k2,k3⟩:=hA.yours v hx ha ho
   exact⟨u,k1,k2,k3⟩
structure Sol (G:Gm) (X:Int→Prop) (p:Bool) (W:Int→Prop):Prop where
 sub:∀v,W v→X v
 mine:Dom G X p W
 yours:Dom G X (!p) (Mn X W)
theorem Sol.uniq {W W':Int→Prop}(h:Sol G X p W) (h':Sol G X p W') (v:Int):W v↔W' v:=by
 constructor
 · intro hv
   by_cases hv':W' v
   · exact hv'
   · exact(Dom.disj h.mine h'.yours hv ⟨h.sub v hv,hv'⟩).elim
 · intro hv
   by_cases hv':W v
   · exact hv'
   · exact(Dom.disj h'.mine h.yours hv ⟨h'.sub v hv,hv'⟩).elim
theorem Sol.flip {W:Int→Prop}(h:Sol G X p W):Sol G X (!p) (Mn X W):=by
 refine⟨fun v hv=>hv.1,h.yours,?_⟩
 rw[Bool.not_not]
 refine h.mine.congr fun v=>⟨fun hv=>⟨h.sub v hv,fun hm=>hm.2 hv⟩,fun hv=>?_⟩
 by_cases hw:W v
 · exact hw
 · exact absurd ⟨hv.1,hw⟩ hv.2
theorem Sol.congr {W W':Int→Prop}(h:Sol G X p W) (e:∀v,W v↔W' v):Sol G X p W':=by
 have:W=W':=funext fun v=>propext (e v)
 exact this ▸ h
end Go.Proofs.YtmiilifclnanlaaGreat.Par
set_option linter.unusedVariables false
set_option linter.unusedSimpArgs false
namespace Go.Proofs.YtmiilifclnanlaaGreat
open Go Go.Wk Go.Proofs
theorem orE (b c:Bool):(bif b then some true else some c)=some (b||c):=by cases b <;> rfl
theorem andE (b c:Bool):(bif b then some c else some false)=some (b&&c):=by cases b <;> rfl
theorem cnt_sim2 {ρ ρ' σ τ:Type}{f:Int→σ→Option (ρ⊕(σ⊕σ))}{g:Int→τ→Option (ρ'⊕(τ⊕τ))}(R:Nat→σ→τ→Prop) (O:ρ→ρ'→Prop) (B:σ→τ→Prop) (N:Nat)
 (step:∀(j:Nat) s t,j<N→R j s t→∃o p,f j s=some o∧g j t=some p∧(match o,p with
  | .inl r,.inl r'=>O r r'
  | .inr (.inl s'),.inr (.inl t')=>B s' t'
  | .inr (.inr s'),.inr (.inr t')=>R (j+1) s' t'
  | _,_=>False)):
 ∀(k j:Nat) (s:σ) (t:τ),j+k=N→R j s t→∃o p,cntM f k j s=some o∧cntM g k j t=some p∧(match o,p with
  | .inl r,.inl r'=>O r r'
  | .inr s',.inr t'=>R N s' t'∨B s' t'
  | _,_=>False)
 | 0,j,s,t,hj,h=>⟨.inr s,.inr t,rfl,rfl,.inl (by rw[← hj];exact h)⟩
 | k+1,j,s,t,hj,h=>by
  obtain⟨o,p,ho,hp,hm⟩:=step j s t (by omega) h
  show ∃o p,Option.bind (f j s) _=some o∧Option.bind (g j t) _=some p∧_
  rw[ho,hp]
  match o,p,hm with
  | .inl r,.inl r',hm=>exact⟨.inl r,.inl r',rfl,rfl,hm⟩
  | .inr (.inl s'),.inr (.inl t'),hm=>exact⟨.inr s',.inr t',rfl,rfl,.inr hm⟩
  | .inr (.inr s'),.inr (.inr t'),hm=>
   obtain⟨o',p',h1,h2,h3⟩:=cnt_sim2 R O B N step k (j+1) s' t' (by omega) hm
   exact⟨o',p',h1,h2,h3⟩
theorem cnt_sim {ρ ρ' σ τ:Type}{f:Int→σ→Option (ρ⊕(σ⊕σ))}{g:Int→τ→Option (ρ'⊕(τ⊕τ))}(R:Nat→σ→τ→Prop) (N:Nat){s:σ}{t:τ}(h0:R 0 s t)
 (step:∀(j:Nat) s t,j<N→R j s t→∃s' t',f j s=some (.inr (.inr s'))∧g j t=some (.inr (.inr t'))∧R (j+1) s' t'):
 ∃s' t',cntM f N 0 s=some (.inr s')∧cntM g N 0 t=some (.inr t')∧R N s' t':=by
 obtain⟨o,p,h1,h2,h3⟩:=cnt_sim2 (f:=f) (g:=g) R (fun _ _=>False) (fun _ _=>False) N (fun j s t hj hr=>by
  obtain⟨s',t',h4,h5,h6⟩:=step j s t hj hr
  exact⟨_,_,h4,h5,h6⟩) N 0 s t (by omega) h0
 match o,p,h3 with
 | .inr s',.inr t',h3=>exact⟨s',t',h1,h2,h3.resolve_right id⟩
theorem cnt_allP {ρ α:Type}{f:Int→Unit→Option (ρ⊕(Unit⊕Unit))}{r:ρ}(g:Nat→α→Bool){xs:List α}{n:Nat}(hn:n=xs.length) (h:∀(i:Nat) x,xs[i]? =some x→f (i:Int) ()=some (if g i x then .inr (.inr ()) else .inl r)):
 cntM f n 0 ()=some (if xs.zipIdx.all (fun p=>g p.2 p.1) then .inr () else .inl r):=by
 subst hn
 have:=cnt_all0 (f:=f) (r:=r) (fun p:α×Nat=>g p.2 p.1) (xs:=xs.zipIdx) (n:=xs.length) (by simp) (fun i x hx=>by
  rw[List.getElem?_zipIdx]at hx
  cases hy:xs[i]? with
  | none=>rw[hy]at hx;cases hx
  | some y=>
   rw[hy]at hx
   simp at hx
   subst hx
   exact h i y hy)
 exact this
theorem while_out {ρ σ:Type}{f:σ→Option (ρ⊕(σ⊕σ))}(I:Nat→σ→Prop) (R:ρ→Prop) (B:σ→Prop) (N:Nat)
 (step:∀(j:Nat) s,I j s→∃o,f s=some o∧(match o with
  | .inl r=>R r
  | .inr (.inl s')=>B s'
  | .inr (.inr s')=>j<N∧I (j+1) s')):
 ∀(k j:Nat) (s:σ),N<k+j→I j s→(0<k)→∃o,whileM f k s=some o∧(match o with
  | .inl r=>R r
  | .inr s'=>B s')
 | 0,_,_,_,_,h=>absurd h (Nat.lt_irrefl 0)
 | k+1,j,s,hk,h,_=>by
  obtain⟨o,ho,hm⟩:=step j s h
  show ∃o,Option.bind (f s) _=some o∧_
  rw[ho]
  match o,hm with
  | .inl r,hm=>exact⟨.inl r,rfl,hm⟩
  | .inr (.inl s'),hm=>exact⟨.inr s',rfl,hm⟩
  | .inr (.inr s'),hm=>
   obtain⟨o',h1,h2⟩:=while_out I R B N step k (j+1) s' (by omega) hm.2 (by omega)
   exact⟨o',h1,h2⟩
theorem toNat_ofInt64 {x:Int}(h0:0≤x) (h1:x<9223372036854775808):(BitVec.ofInt (IntKind.bits IntKind.i64) x).toNat=x.toNat:=by
 show(BitVec.ofInt 64 x).toNat=x.toNat
 rw[BitVec.toNat_ofInt]
 congr 1
 omega
def b2i (b:Bool):Int:=if b then 1 else 0
theorem fdiv_pos {x y:Int}(h:0≤y):Int.fdiv x y=x / y:=Int.fdiv_eq_ediv_of_nonneg x h
theorem ex_nat {z:Int}(h:0≤z):∃n:Nat,z=n:=⟨z.toNat,by omega⟩
theorem appL {α:Type}{b:Nat}{xs ys:List α}(h:xs.length+ys.length≤100000000000) (hb:Nat.ble b 1024=true):appS b xs ys=some (xs++ys):=by
 have hb:=Nat.ble_eq.mp hb
 have:(xs.length+ys.length) * b≤100000000000 * 1024:=Nat.mul_le_mul h hb
 unfold appS
 rw[if_pos (by omega)]
theorem app1 {α:Type}{b:Nat}{xs:List α}{x:α}(h:xs.length≤10000000000) (hb:Nat.ble b 1024=true):appS b xs [x]=some (xs++[x]):=appL (by simp only[List.length_cons,List.length_nil];omega) hb
theorem get_el {α:Type}{xs:List α}{z:Int}(h0:0≤z) (h1:z<xs.length):∃x,idx xs z=some x∧x∈xs:=by
 have hz:z.toNat<xs.length:=by omega
 exact⟨xs[z.toNat],by rw[idx_int h0];simp[hz],by simp⟩
end Go.Proofs.YtmiilifclnanlaaGreat
set_option linter.unusedVariables false
set_option linter.unusedSimpArgs false
namespace Go.Proofs.YtmiilifclnanlaaGreat
open Go Go.Wk Go.Proofs
theorem idx_setI {α:Type}{xs ys:List α}{i v:Int}{x:α}(h:setI xs i x=some ys):idx ys v=if v=i then some x else idx xs v:=by
 obtain⟨h0,h1,rfl,_⟩:=setI_ok h
 unfold idx
 by_cases hv:0≤v
 · rw[if_pos hv,if_pos hv]
   by_cases e:v=i
   · subst e
     rw[if_pos rfl,List.getElem?_set_self (by omega)]
   · rw[if_neg e,List.getElem?_set_ne (by omega)]
 · rw[if_neg hv,if_neg hv,if_neg (by omega)]
theorem setI_some {α:Type}{xs:List α}{i:Int}(x:α) (h0:0≤i) (h1:i<xs.length):∃ys,setI xs i x=some ys∧ys.length=xs.length:=by
 have:setI xs i x=some (xs.set i.toNat x):=by unfold setI;rw[if_pos ⟨h0,h1⟩]
 exact⟨_,this,(setI_ok this).2.2.2⟩
theorem idx_some {α:Type}{xs:List α}{i:Int}(h0:0≤i) (h1:i<xs.length):∃x,idx xs i=some x:=by
 obtain⟨x,h,_⟩:=get_el h0 h1
 exact⟨x,h⟩
theorem idx_rng {α:Type}{xs:List α}{i:Int}{x:α}(h:idx xs i=some x):0≤i∧i<xs.length:=⟨(idx_ok h).1,(idx_ok h).2.1⟩
def posL (v:Int):List Int→Nat
 | []=>0
 | x::xs=>if x=v then 0 else posL v xs+1
theorem posL_get {v:Int}:∀{Q:List Int},v∈Q→Q[posL v Q]? =some v
 | x::xs,h=>by
  unfold posL
  by_cases e:x=v
  · rw[if_pos e,e];rfl
  · rw[if_neg e]
    rcases List.mem_cons.1 h with h | h
    · exact absurd h.symm e
    · simpa using posL_get h
theorem posL_le {v:Int}:∀{Q:List Int}{m:Nat},Q[m]? =some v→posL v Q≤m
 | x::xs,0,h=>by
  unfold posL
  simp at h
  rw[if_pos h];omega
 | x::xs,m+1,h=>by
  unfold posL
  split
  · omega
  · have:=posL_le (Q:=xs) (m:=m) (by simpa using h)
    omega
theorem posL_take {u:Int}{Q:List Int}{k:Nat}(h:u∈Q.take k):posL u Q<k:=by
 obtain⟨m,hm⟩:=List.mem_iff_getElem?.1 h
 rw[List.getElem?_take]at hm
 split at hm
 · have:=posL_le hm;omega
 · cases hm
def In (B:List Bool) (v:Int):Prop:=idx B v=some true
section
variable (row:Int→List Int) (own:Int→Bool) (pri:Int→Int) (inn:Int→Prop) (p:Bool) (goal:Int→Prop)
def mkG:Par.Gm:=⟨own,pri,fun v u=>u∈row v⟩
structure Cert (Q:List Int):Prop where
 nd:Q.Nodup
 mem:∀v∈Q,inn v
 why:∀(k:Nat) v,Q[k]? =some v→goal v∨(own v=p∧∃u∈Q.take k,u∈row v)∨(¬own v=p∧∀u∈row v,inn u→u∈Q.take k)
variable {row own pri inn p goal}
theorem Cert.snoc {Q:List Int}(h:Cert row own inn p goal Q){v:Int}(hv:v∉Q) (hi:inn v) (hw:goal v∨(own v=p∧∃u∈Q,u∈row v)∨(¬own v=p∧∀u∈row v,inn u→u∈Q)):Cert row own inn p goal (Q++[v]):=by
 refine⟨?_,?_,?_⟩
 · rw[List.nodup_append]
   exact⟨h.nd,by simp,fun a ha b hb=>by simp at hb;subst hb;exact fun e=>hv (e ▸ ha)⟩
 · intro x hx
   rcases List.mem_append.1 hx with hx | hx
   · exact h.mem x hx
   · simp at hx;subst hx;exact hi
 · intro k x hk
   by_cases hlt:k<Q.length
   · rw[List.getElem?_append_left hlt]at hk
     rw[List.take_append_of_le_length (by omega)]
     exact h.why k x hk
   · have:k=Q.length:=by
      have:=(List.getElem?_eq_some_iff.1 hk).1
      simp at this;omega
     subst this
     rw[List.getElem?_append_right (Nat.le_refl _),Nat.sub_self]at hk
     simp at hk
     subst hk
     rw[List.take_append_of_le_length (Nat.le_refl _),List.take_length]
     exact hw
def Trap (row:Int→List Int) (own:Int→Bool) (inn:Int→Prop) (p:Bool) (Q:List Int) (d:Int→Int→Prop):Prop:=∀v,inn v→v∉Q→(own v=p→∀y∈row v,inn y→¬d v y)∧(¬own v=p→∃y∈row v,inn y∧¬d v y)
theorem Cert.attr {Q:List Int}(h:Cert row own inn p goal Q) (hg:∀v,inn v→goal v→v∈Q) (ht:Trap row own inn p Q (fun _ y=>y∈Q)):Par.IsAttr (mkG row own pri) inn p goal (fun v=>v∈Q):=by
 refine⟨h.mem,hg,⟨fun v=>posL v Q,fun v hv=>?_⟩,?_,?_⟩
 · have hlt:∀u,u∈Q.take (posL v Q)→u∈Q∧posL u Q<posL v Q:=fun u hu=>⟨List.mem_of_mem_take hu,posL_take hu⟩
   rcases h.why _ v (posL_get hv) with hw | ⟨ho,u,hu,hr⟩ | ⟨ho,hw⟩
   · exact .inl hw
   · exact .inr (.inl ⟨ho,u,hr,hlt u hu⟩)
   · exact .inr (.inr ⟨ho,fun u hr hx=>hlt u (hw u hr hx)⟩)
 · intro v u hx hq ho he hxu
   exact(ht v hx hq).1 ho u he hxu
 · intro v hx hq ho
   obtain⟨y,h1,h2,h3⟩:=(ht v hx hq).2 ho
   exact⟨y,h1,h2,h3⟩
end
open Classical in
noncomputable def lf (row:List Int) (inn d:Int→Prop):Nat:=(row.filter (fun y=>decide (inn y∧¬d y))).length
theorem lf_zero {row:List Int}{inn d:Int→Prop}:lf row inn d=0↔∀y∈row,inn y→d y:=by
 classical
 unfold lf
 rw[List.length_eq_zero_iff,List.filter_eq_nil_iff]
 constructor
 · intro h y hy hi
   by_cases hd:d y
   · exact hd
   · exact absurd (by simp;exact⟨hi,hd⟩) (h y hy)
 · intro h y hy hc
   simp at hc
   exact hc.2 (h y hy hc.1)
theorem lf_congr {row:List Int}{inn d d':Int→Prop}(h:∀y∈row,inn y→(d y↔d' y)):lf row inn d=lf row inn d':=by
 classical
 unfold lf
 congr 1
 apply List.filter_congr
 intro y hy
 by_cases hi:inn y
 · simp[hi,h y hy hi]
 · simp[hi]
theorem lf_le {row:List Int}{inn d:Int→Prop}:lf row inn d≤row.length:=by
 unfold lf;exact List.length_filter_le _ _
theorem lf_step {inn d:Int→Prop}{u:Int}:∀{row:List Int},row.Nodup→u∈row→inn u→¬d u→lf row inn (fun y=>d y∨y=u)+1=lf row inn d
 | x::xs,hn,hu,hi,hd=>by
  classical
  have hn':=List.nodup_cons.1 hn
  by_cases e:x=u
  · subst e
    have:lf xs inn (fun y=>d y∨y=x)=lf xs inn d:=lf_congr fun y hy _=>⟨fun h=>h.resolve_right fun e=>hn'.1 (e ▸ hy),.inl⟩
    unfold lf at this ⊢
    rw[List.filter_cons,if_neg (by simp),List.filter_cons,if_pos (by simp[hi,hd]),List.length_cons,this]
  · have hu':u∈xs:=(List.mem_cons.1 hu).resolve_left fun h=>e h.symm
    have ih:=lf_step hn'.2 hu' hi hd
    unfold lf at ih ⊢
    rw[List.filter_cons,List.filter_cons]
    by_cases hc:inn x∧¬d x
    · rw[if_pos (by simp[hc,e]),if_pos (by simp[hc]),List.length_cons,List.length_cons,← ih]
    · rw[if_neg (by simp[e];exact fun h=>Classical.byContradiction fun h2=>hc ⟨h,h2⟩),if_neg (by simp;exact fun h=>Classical.byContradiction fun h2=>hc ⟨h,h2⟩),ih]
def dn (T:List Int) (u:Int) (L:List Int) (v y:Int):Prop:=y∈T∨(y=u∧v∈L)
structure Mid (row:Int→List Int) (own:Int→Bool) (inn:Int→Prop) (p:Bool) (goal:Int→Prop) (T:List Int) (u:Int) (L Q:List Int):Prop where
 cert:Cert row own inn p goal Q
 hu:∃R,Q=T++u::R
 trap:Trap row own inn p Q (dn T u L)
section
variable {row:Int→List Int}{own:Int→Bool}{inn:Int→Prop}{p:Bool}{goal:Int→Prop}{T:List Int}{u:Int}{L Q:List Int}
theorem Mid.u_in (h:Mid row own inn p goal T u L Q):u∈Q∧u∉T∧inn u:=by
 obtain⟨R,e⟩:=h.hu
 have hq:u∈Q:=by rw[e];simp
 refine⟨hq,?_,h.cert.mem u hq⟩
 have:=h.cert.nd
 rw[e,List.nodup_append]at this
 exact fun ht=>this.2.2 u ht u (by simp) rfl
theorem dn_other {v w y:Int}(h:w≠v):dn T u (L++[v]) w y↔dn T u L w y:=by
 unfold dn
 rw[List.mem_append,List.mem_singleton]
 constructor
 · rintro(h1 | ⟨h1,h2 | h2⟩)
   · exact .inl h1
   · exact .inr ⟨h1,h2⟩
   · exact absurd h2 h
 · rintro(h1 | ⟨h1,h2⟩)
   · exact .inl h1
   · exact .inr ⟨h1,.inl h2⟩
theorem dn_self {v y:Int}:dn T u (L++[v]) v y↔y∈T∨y=u:=by
 unfold dn;simp
theorem dn_self0 {v y:Int}(h:v∉L):dn T u L v y↔y∈T:=by
 unfold dn;simp[h]
theorem Mid.skip (h:Mid row own inn p goal T u L Q){v:Int}(hv:¬inn v∨v∈Q∨u∉row v):Mid row own inn p goal T u (L++[v]) Q:=by
 refine⟨h.cert,h.hu,fun w hw hq=>?_⟩
 obtain⟨t1,t2⟩:=h.trap w hw hq
 by_cases e:w=v
 · subst e
   have hu:u∉row w:=by
    rcases hv with hv | hv | hv
    · exact absurd hw hv
    · exact absurd hv hq
    · exact hv
   have key:∀y∈row w,(dn T u (L++[w]) w y↔dn T u L w y):=fun y hy=>by
    have hyu:y≠u:=fun e=>hu (e ▸ hy)
    unfold dn;simp[hyu]
   refine⟨fun ho y hy hi=>fun hd=>t1 ho y hy hi ((key y hy).1 hd),fun ho=>?_⟩
   obtain⟨y,h1,h2,h3⟩:=t2 ho
   exact⟨y,h1,h2,fun hd=>h3 ((key y h1).1 hd)⟩
 · refine⟨fun ho y hy hi=>fun hd=>t1 ho y hy hi ((dn_other e).1 hd),fun ho=>?_⟩
   obtain⟨y,h1,h2,h3⟩:=t2 ho
   exact⟨y,h1,h2,fun hd=>h3 ((dn_other e).1 hd)⟩
theorem Mid.stay (h:Mid row own inn p goal T u L Q){v:Int}(ho:¬own v=p) (hl:lf (row v) inn (fun y=>y∈T∨y=u)≠0):Mid row own inn p goal T u (L++[v]) Q:=by
 refine⟨h.cert,h.hu,fun w hw hq=>?_⟩
 obtain⟨t1,t2⟩:=h.trap w hw hq
 by_cases e:w=v
 · subst e
   refine⟨fun ho'=>absurd ho' ho,fun _=>?_⟩
   apply Classical.byContradiction
   intro hc
   apply hl
   rw[lf_zero]
   intro y hy hi
   apply Classical.byContradiction
   intro hd
   exact hc ⟨y,hy,hi,fun h=>hd (dn_self.1 h)⟩
 · refine⟨fun ho y hy hi=>fun hd=>t1 ho y hy hi ((dn_other e).1 hd),fun ho=>?_⟩
   obtain⟨y,h1,h2,h3⟩:=t2 ho
   exact⟨y,h1,h2,fun hd=>h3 ((dn_other e).1 hd)⟩
theorem Mid.add (h:Mid row own inn p goal T u L Q){v:Int}(hi:inn v) (hq:v∉Q) (hu:u∈row v) (hw:own v=p∨lf (row v) inn (fun y=>y∈T∨y=u)=0):Mid row own inn p goal T u (L++[v]) (Q++[v]):=by
 obtain⟨R,e⟩:=h.hu
 have hTQ:∀y,y∈T∨y=u→y∈Q:=fun y hy=>by
  rw[e]
  rcases hy with hy | hy
  · simp[hy]
  · simp[hy]
 refine⟨h.cert.snoc hq hi ?_,⟨R++[v],by rw[e];simp⟩,fun w hw' hq'=>?_⟩
 · by_cases ho:own v=p
   · exact .inr (.inl ⟨ho,u,h.u_in.1,hu⟩)
   · exact .inr (.inr ⟨ho,fun y hy hyi=>hTQ y ((lf_zero.1 (hw.resolve_left ho)) y hy hyi)⟩)
 · rw[List.mem_append,List.mem_singleton,not_or]at hq'
   obtain⟨t1,t2⟩:=h.trap w hw' hq'.1
   refine⟨fun ho y hy hi=>fun hd=>t1 ho y hy hi ((dn_other hq'.2).1 hd),fun ho=>?_⟩
   obtain⟨y,h1,h2,h3⟩:=t2 ho
   exact⟨y,h1,h2,fun hd=>h3 ((dn_other hq'.2).1 hd)⟩
theorem Mid.first {R:List Int}(hc:Cert row own inn p goal (T++u::R)) (ht:Trap row own inn p (T++u::R) (fun _ y=>y∈T)):Mid row own inn p goal T u [] (T++u::R):=by
 refine⟨hc,⟨R,rfl⟩,fun v hv hq=>?_⟩
 obtain⟨t1,t2⟩:=ht v hv hq
 refine⟨fun ho y hy hi hd=>t1 ho y hy hi ((dn_self0 (by simp)).1 hd),fun ho=>?_⟩
 obtain⟨y,h1,h2,h3⟩:=t2 ho
 exact⟨y,h1,h2,fun hd=>h3 ((dn_self0 (by simp)).1 hd)⟩
theorem Mid.last (h:Mid row own inn p goal T u L Q) (hL:∀v,inn v→u∈row v→v∈L):Trap row own inn p Q (fun _ y=>y∈T++[u]):=fun v hv hq=>by
 obtain⟨t1,t2⟩:=h.trap v hv hq
 have key:∀y∈row v,(y∈T++[u]→dn T u L v y):=fun y hy hm=>by
  rw[List.mem_append,List.mem_singleton]at hm
  rcases hm with hm | hm
  · exact .inl hm
  · exact .inr ⟨hm,hL v hv (hm ▸ hy)⟩
 refine⟨fun ho y hy hi hd=>t1 ho y hy hi (key y hy hd),fun ho=>?_⟩
 obtain⟨y,h1,h2,h3⟩:=t2 ho
 exact⟨y,h1,h2,fun hd=>h3 (by
  rcases List.mem_append.1 hd with hm | hm
  · exact .inl hm
  · rw[List.mem_singleton]at hm
    exact .inr ⟨hm,hL v hv (hm ▸ h1)⟩)⟩
end
end Go.Proofs.YtmiilifclnanlaaGreat
set_option linter.unusedVariables false
set_option linter.unusedSimpArgs false
namespace Go.Proofs.YtmiilifclnanlaaGreat
open Go Go.Wk Go.Proofs
def inR (n x:Int):Bool:=decide (0≤x)&&decide (x<n)
theorem inR_iff {n x:Int}:inR n x=true↔0≤x∧x<n:=by unfold inR;simp
theorem inR_one (n x:Int):(decide (0≤x)&&decide (x≤n-1))=inR n x:=by
 unfold inR
 congr 1
 exact decide_eq_decide.2 (by omega)
theorem not_inR (n x:Int):(decide (x<0)||decide (n≤x))= !(inR n x):=by
 unfold inR
 by_cases h1:x<0 <;> by_cases h2:n≤x <;> simp[h1,h2] <;> omega
theorem in2 (o:Int):(decide (0≤o)&&decide (o≤1))=inR 2 o:=by
 unfold inR;congr 1;exact decide_eq_decide.2 (by omega)
theorem in41 (o:Int):(decide (0≤o)&&decide (o≤40))=inR 41 o:=by
 unfold inR;congr 1;exact decide_eq_decide.2 (by omega)
theorem gt_not (a b:Int):decide (a<b)= !decide (b≤a):=by rw[← decide_not];exact decide_eq_decide.2 (by omega)
theorem s_l1In_eq (a b c:Int):s_l1In a b c=some (decide (b≤a)&&decide (a≤c)):=by
 unfold s_l1In
 by_cases h:b≤a <;> simp[h]
theorem nodup_lenN:∀(n:Nat) (xs:List Int),xs.Nodup→(∀x∈xs,0≤x∧x<n)→xs.length≤n
 | 0,[],_,_=>by simp
 | 0,x::xs,_,h=>by have:=h x (List.mem_cons_self ..);omega
 | n+1,xs,hn,h=>by
  by_cases hm:(n:Int)∈xs
  · have h1:=List.length_erase_of_mem hm
    have h2:=nodup_lenN n (xs.erase (n:Int)) (hn.erase _) (fun x hx=>by
     rw[hn.mem_erase_iff]at hx
     have:=h x hx.2
     have:=hx.1
     omega)
    omega
  · have:=nodup_lenN n xs hn (fun x hx=>by
     have h3:=h x hx
     have:x≠n:=fun e=>hm (e ▸ hx)
     omega)
    omega
end Go.Proofs.YtmiilifclnanlaaGreat
set_option linter.unusedVariables false
set_option linter.unusedSimpArgs false
namespace Go.Proofs.YtmiilifclnanlaaGreat
open Go Go.Wk Go.Proofs
structure WfS (x:l7Game) (n:Nat):Prop where
 n256:n≤256
 lo:x.owner.length=n
 lp:x.prio.length=n
 ln:x.next.length=n
 lk:x.pick.length=n
 lv:x.prev.length=n
 ow:∀v o,idx x.owner v=some o→o=0∨o=1
 row:∀v r,idx x.next v=some r→r.length≤16∧r.Nodup∧∀u∈r,0≤u∧u<n
 prev:∀u P,idx x.prev u=some P→P.Nodup∧P.length≤100000∧∀v,v∈P↔∃r,idx x.next v=some r∧u∈r
def okE (k u:Int):Bool:=decide (k<0)||(k==u)
def rowS (x:l7Game) (v:Int):List Int:=match idx x.next v,idx x.pick v with
 | some r,some k=>r.filter (okE k)
 | _,_=>[]
def ownL (O:List Int) (v:Int):Bool:=match idx O v with
 | some o=>o==1
 | none=>false
def priL (P:List Int) (v:Int):Int:=(idx P v).getD 0
theorem rowS_eq {x:l7Game}{v k:Int}{r:List Int}(hr:idx x.next v=some r) (hk:idx x.pick v=some k):rowS x v=r.filter (okE k):=by unfold rowS;rw[hr,hk]
theorem s_edge {x:l7Game}{v k:Int}(u:Int) (hk:idx x.pick v=some k):s_l7Edge x v u=some (okE k u):=by
 unfold s_l7Edge okE
 rw[hk,Option.bind_some]
 cases decide (k<0) <;> simp
theorem own_who {O:List Int}{v o:Int}{p:Bool}(h:idx O v=some o) (ho:o=0∨o=1):(o==b2i p)=decide (ownL O v=p):=by
 unfold ownL
 rw[h]
 rcases ho with rfl | rfl <;> cases p <;> decide
section
variable {x:l7Game}{n:Nat}(wf:WfS x n){B:List Bool}(hB:B.length=n)
include wf
theorem WfS.get {v:Int}(h0:0≤v) (h1:v<n):∃r k,idx x.next v=some r∧idx x.pick v=some k:=by
 have:=wf.ln
 have:=wf.lk
 obtain⟨r,hr⟩:=idx_some (xs:=x.next) h0 (by omega)
 obtain⟨k,hk⟩:=idx_some (xs:=x.pick) h0 (by omega)
 exact⟨r,k,hr,hk⟩
theorem rowS_ok (v:Int):(rowS x v).Nodup∧(rowS x v).length≤16∧∀u∈rowS x v,0≤u∧u<n:=by
 unfold rowS
 cases hr:idx x.next v with
 | none=>simp
 | some r=>
  cases hk:idx x.pick v with
  | none=>simp
  | some k=>
   obtain⟨h1,h2,h3⟩:=wf.row v r hr
   exact⟨h2.filter _,Nat.le_trans (List.length_filter_le _ _) h1,fun u hu=>h3 u (List.mem_filter.1 hu).1⟩
include hB
omit wf in
theorem In_rng {v:Int}(h:In B v):0≤v∧v<n:=by
 have:=idx_rng h
 rw[hB]at this
 exact this
theorem s_degree {v:Int}(h0:0≤v) (h1:v<n):s_l7Degree x B v=some (lf (rowS x v) (In B) (fun _=>False):Int):=by
 classical
 obtain⟨r,k,hr,hk⟩:=wf.get h0 h1
 obtain⟨r1,r2,r3⟩:=wf.row v r hr
 let g:Int→Bool:=fun u=>decide (In B u)&&okE k u
 unfold s_l7Degree
 obtain⟨o,w1,w2⟩:=while_out (f:=s_l7Degree_b0 x B v) (fun j (s:Int×Int)=>s=((((r.take j).filter g).length:Int),(j:Int))∧j≤r.length) (fun _=>False) (fun s=>s.1=((r.filter g).length:Int)) r.length (fun j s ⟨hs,hj⟩=>by
  subst hs
  unfold s_l7Degree_b0
  rw[hr,Option.bind_some]
  dsimp only
  by_cases hlt:(j:Int)<(r.length:Int)
  · have hu:r[j]? =some r[j]:=List.getElem?_eq_getElem (by omega)
    generalize r[j]=u at hu
    obtain⟨u0,u1⟩:=r3 u (List.mem_of_getElem? hu)
    obtain⟨b,hb⟩:=idx_some (xs:=B) u0 (by omega)
    have hle:((r.take j).filter g).length≤j:=Nat.le_trans (List.length_filter_le _ _) (by rw[List.length_take];omega)
    simp only[hlt,decide_true,cond_true,Option.bind_some,idx_nat,hu,hb,s_edge u hk,andE]
    have hg:(b&&okE k u)=g u:=by
     show _=(decide (In B u)&&okE k u)
     congr 1
     unfold In;rw[hb];cases b <;> simp
    rw[hg]
    have htk:(r.take (j+1)).filter g=(r.take j).filter g++(if g u then[u] else[]):=by
     rw[List.take_add_one,hu,List.filter_append];congr 1
     cases h:g u <;> simp[h]
    rw[wr' (by omega) (by omega),wr' (by omega) (by omega)]
    cases h:g u with
    | true=>exact⟨_,rfl,by omega,by rw[htk,h];simp,by omega⟩
    | false=>exact⟨_,rfl,by omega,by rw[htk,h];simp,by omega⟩
  · simp only[hlt,decide_false,cond_false]
    refine⟨_,rfl,?_⟩
    dsimp only
    rw[List.take_of_length_le (by omega)]) (2 ^ 64) 0 (0,0) (by omega) ⟨by simp,by omega⟩ (by omega)
 match o,w2 with
 | .inr s,h2=>
  rw[w1,Option.bind_some,aft_inr,h2,rowS_eq hr hk]
  unfold lf
  rw[List.filter_filter]
  congr 3
  apply List.filter_congr
  intro u _
  show(decide (In B u)&&okE k u)=_
  simp
theorem s_prev_step {goal:Int→Prop}{p:Bool}{T L Q:List Int}{u v:Int}{out:List Bool}{left:List Int}(hm:Mid (rowS x) (ownL x.owner) (In B) p goal T u L Q) (hvL:v∉L)
 {P:List Int} {j:Nat} (hP:idx x.prev u=some P) (hj:P[j]? =some v) (hQ:Q.length≤100000)
 (ho:out.length=n∧∀v:Int,0≤v→v<n→idx out v=some (decide (v∈Q))) (hl:left.length=n∧∀v,In B v→v∉Q→idx left v=some (lf (rowS x v) (In B) (dn T u L v):Int)):
 ∃Q' out' left',s_l7Attract_b4 x B (b2i p) u (Q,(j:Int),out,left)=some (.inr (.inr (Q',((j+1:Nat):Int),out',left')))∧Mid (rowS x) (ownL x.owner) (In B) p goal T u (L++[v]) Q' ∧
  (out'.length=n∧∀v:Int,0≤v→v<n→idx out' v=some (decide (v∈Q')))∧(left'.length=n∧∀w,In B w→w∉Q'→idx left' w=some (lf (rowS x w) (In B) (dn T u (L++[v]) w):Int))∧(∀v∈Q,v∈Q'):=by
 have hn:=wf.n256
 obtain⟨p1,p2,p3⟩:=wf.prev u P hP
 obtain⟨r,hr,hur⟩:=(p3 v).1 (List.mem_of_getElem? hj)
 obtain⟨v0,v1⟩:=idx_rng hr
 rw[wf.ln]at v1
 obtain⟨k,hk⟩:=idx_some (xs:=x.pick) v0 (by rw[wf.lk];exact v1)
 obtain⟨b,hb⟩:=idx_some (xs:=B) v0 (by omega)
 obtain⟨w,hw⟩:=idx_some (xs:=x.owner) v0 (by rw[wf.lo];exact v1)
 have hjl:(j:Int)<(P.length:Int):=by have:=(List.getElem?_eq_some_iff.1 hj).1;omega
 have hwr:IntKind.i64.wrap ((j:Int)+1)=((j+1:Nat):Int):=by rw[wr' (by omega) (by omega)];omega
 unfold s_l7Attract_b4
 rw[hP,Option.bind_some]
 dsimp only
 simp only[hjl,decide_true,cond_true,Option.bind_some,idx_nat,hj,hb,ho.2 v v0 v1,s_edge u hk,orE,hwr]
 have hedge:u∈rowS x v↔okE k u=true:=by rw[rowS_eq hr hk,List.mem_filter];exact⟨fun h=>h.2,fun h=>⟨hur,h⟩⟩
 have hdn:∀w,w≠v→lf (rowS x w) (In B) (dn T u (L++[v]) w)=lf (rowS x w) (In B) (dn T u L w):=fun w hw=>lf_congr fun y _ _=>dn_other hw
 by_cases hsk:((!b||decide (v∈Q)) || !okE k u)=true
 · rw[hsk,cond_true]
   have hcond:¬In B v∨v∈Q∨u∉rowS x v:=by
    simp only[Bool.or_eq_true,Bool.not_eq_true',decide_eq_true_eq]at hsk
    rcases hsk with (h | h) | h
    · left;unfold In;rw[hb,h];simp
    · exact .inr (.inl h)
    · right;right;rw[hedge,h];simp
   refine⟨Q,out,left,rfl,hm.skip hcond,ho,⟨hl.1,fun y hy hq=>?_⟩,fun _ h=>h⟩
   rw[hl.2 y hy hq]
   by_cases e:y=v
   · subst e
     have hu:u∉rowS x y:=by
      rcases hcond with h | h | h
      · exact absurd hy h
      · exact absurd h hq
      · exact h
     congr 2
     exact lf_congr fun z hz _=>by
      have:z≠u:=fun e=>hu (e ▸ hz)
      unfold dn;simp[this]
   · rw[hdn y e]
 · simp only[Bool.not_eq_true,Bool.or_eq_false_iff,Bool.not_eq_false',decide_eq_false_iff_not]at hsk
   obtain⟨⟨h1,h2⟩,h3⟩:=hsk
   subst h1
   have hi:In B v:=hb
   have hu:u∈rowS x v:=hedge.2 h3
   have hlv:=hl.2 v hi h2
   have hlf:lf (rowS x v) (In B) (fun y=>y∈T∨y=u)+1=lf (rowS x v) (In B) (dn T u L v):=by
    rw[lf_step (rowS_ok wf v).1 hu hm.u_in.2.2 hm.u_in.2.1]
    exact lf_congr fun y _ _=>(dn_self0 hvL).symm
   have hlle:lf (rowS x v) (In B) (dn T u L v)≤16:=Nat.le_trans lf_le (rowS_ok wf v).2.1
   obtain⟨left',hs,hsl⟩:=setI_some (xs:=left) (i:=v) (lf (rowS x v) (In B) (fun y=>y∈T∨y=u):Int) v0 (by omega)
   have hwrl:IntKind.i64.wrap ((lf (rowS x v) (In B) (dn T u L v):Int)-1)=(lf (rowS x v) (In B) (fun y=>y∈T∨y=u):Int):=by rw[wr' (by omega) (by omega)];omega
   have hnew:idx left' v=some (lf (rowS x v) (In B) (fun y=>y∈T∨y=u):Int):=by rw[idx_setI hs,if_pos rfl]
   have hleft:∀w,In B w→w∉Q→idx left' w=some (lf (rowS x w) (In B) (dn T u (L++[v]) w):Int):=fun w hw hq=>by
    rw[idx_setI hs]
    by_cases e:w=v
    · subst e
      rw[if_pos rfl]
      congr 2
      exact lf_congr fun y _ _=>dn_self.symm
    · rw[if_neg e,hl.2 w hw hq,hdn w e]
   have hbeq:((lf (rowS x v) (In B) (fun y=>y∈T∨y=u):Int)==0)=decide (lf (rowS x v) (In B) (fun y=>y∈T∨y=u)=0):=by
    rw[Bool.eq_iff_iff];simp
   simp only[h2,h3,decide_false,Bool.not_true,Bool.or_false,cond_false,hlv,Option.bind_some,hwrl,hs,hw,own_who hw (wf.ow v w hw),hnew,hbeq,orE]
   by_cases hc:ownL x.owner v=p∨lf (rowS x v) (In B) (fun y=>y∈T∨y=u)=0
   · have hc':(decide (ownL x.owner v=p)||decide (lf (rowS x v) (In B) (fun y=>y∈T∨y=u)=0))=true:=by simpa using hc
     obtain⟨out',hso,hsol⟩:=setI_some (xs:=out) (i:=v) true v0 (by omega)
     simp only[hc',cond_true,hso,Option.bind_some,app1 (show Q.length≤10000000000 by omega) (show Nat.ble 8 1024=true from rfl)]
     refine⟨_,_,_,rfl,hm.add hi h2 hu hc,⟨by omega,fun y y0 y1=>?_⟩,⟨by omega,fun w hw hq=>hleft w hw fun h=>hq (List.mem_append_left _ h)⟩,fun _ h=>List.mem_append_left _ h⟩
     rw[idx_setI hso]
     by_cases e:y=v
     · subst e;simp
     · rw[if_neg e,ho.2 y y0 y1];simp[e]
   · have hc':(decide (ownL x.owner v=p)||decide (lf (rowS x v) (In B) (fun y=>y∈T∨y=u)=0))=false:=by simpa using hc
     rw[not_or]at hc
     simp only[hc',cond_false,Option.bind_some]
     exact⟨_,_,_,rfl,hm.stay hc.1 hc.2,ho,⟨by omega,hleft⟩,fun _ h=>h⟩
end
end Go.Proofs.YtmiilifclnanlaaGreat
set_option linter.unusedVariables false
set_option linter.unusedSimpArgs false
namespace Go.Proofs.YtmiilifclnanlaaGreat
open Go Go.Wk Go.Proofs
def gS (x:l7Game):Par.Gm:=mkG (rowS x) (ownL x.owner) (priL x.prio)
theorem take_one {α:Type}{xs:List α}{j:Nat}{y:α}(h:xs[j]? =some y):xs.take (j+1)=xs.take j++[y]:=by rw[List.take_add_one,h];rfl
theorem nodup_take {xs:List Int}{j:Nat}{y:Int}(hn:xs.Nodup) (h:xs[j]? =some y):y∉xs.take j:=by
 have h2:=hn.sublist (List.take_sublist (j+1) xs)
 rw[take_one h,List.nodup_append]at h2
 exact fun hm=>h2.2.2 y hm y (by simp) rfl
section
variable {x:l7Game}{n:Nat}(wf:WfS x n){B:List Bool}(hB:B.length=n)
include wf hB
omit wf in
theorem cert_len {p:Bool}{goal:Int→Prop}{Q:List Int}(h:Cert (rowS x) (ownL x.owner) (In B) p goal Q):Q.length≤n:=nodup_lenN n Q h.nd fun v hv=>In_rng hB (h.mem v hv)
theorem s_att_init {goal:List Bool}(hG:goal.length=n){p:Bool}(hN:Par.NoDead (gS x) (In B)):∃Q out left,cntM (s_l7Attract_b0 x B goal) B.length 0 ([],List.replicate n false,List.replicate n 0)=some (.inr (Q,out,left)) ∧
 Cert (rowS x) (ownL x.owner) (In B) p (In goal) Q∧(∀v,In B v→In goal v→v∈Q)∧Trap (rowS x) (ownL x.owner) (In B) p Q (fun _ y=>y∈([]:List Int)) ∧
 (out.length=n∧∀v:Int,0≤v→v<n→idx out v=some (decide (v∈Q)))∧(left.length=n∧∀w,In B w→w∉Q→idx left w=some (lf (rowS x w) (In B) (fun y=>y∈([]:List Int)):Int)):=by
 have hn:=wf.n256
 obtain⟨s,h1,h2⟩:=cnt_inv (f:=s_l7Attract_b0 x B goal) (fun j (s:List Int×List Bool×List Int)=>s.1.Nodup∧(∀v,v∈s.1↔v<(j:Int)∧In B v∧In goal v) ∧
  (s.2.1.length=n∧∀v:Int,0≤v→v<n→idx s.2.1 v=some (decide (v∈s.1)))∧(s.2.2.length=n∧∀w:Int,w<(j:Int)→In B w→idx s.2.2 w=some (lf (rowS x w) (In B) (fun _=>False):Int))) B.length (s:=([],List.replicate n false,List.replicate n 0))
  ⟨by simp,fun v=>⟨fun h=>by simp at h,fun⟨h,hb,_⟩=>by have:=(In_rng hB hb).1;omega⟩,⟨by simp,fun v v0 v1=>by
   rw[idx_int v0,List.getElem?_replicate,if_pos (by omega)];simp⟩,⟨by simp,fun w hw hb=>by have:=(In_rng hB hb).1;omega⟩⟩ (fun j s hj ⟨q1,q2,o,l⟩=>by
  obtain⟨Q,out,left⟩:=s
  dsimp only at q1 q2 o l
  rw[hB]at hj
  obtain⟨b,hb⟩:=idx_some (xs:=B) (i:=(j:Int)) (by omega) (by omega)
  obtain⟨g,hg⟩:=idx_some (xs:=goal) (i:=(j:Int)) (by omega) (by omega)
  have hlen:Q.length≤n:=nodup_lenN n Q q1 fun v hv=>In_rng hB ((q2 v).1 hv).2.1
  have hjQ:(j:Int)∉Q:=fun h=>by have:=((q2 _).1 h).1;omega
  have hlf:=lf_le (row:=rowS x (j:Int)) (inn:=In B) (d:=fun _=>False)
  have hl16:=(rowS_ok wf (j:Int)).2.1
  obtain⟨left',hs,hsl⟩:=setI_some (xs:=left) (i:=(j:Int)) (lf (rowS x (j:Int)) (In B) (fun _=>False):Int) (by omega) (by omega)
  obtain⟨out',hso,hsol⟩:=setI_some (xs:=out) (i:=(j:Int)) true (by omega) (by omega)
  obtain⟨ol,hol⟩:=idx_some (xs:=left) (i:=(j:Int)) (by omega) (by omega)
  unfold s_l7Attract_b0
  dsimp only
  simp only[hb,Option.bind_some,hg,andE,s_degree wf hB (show 0≤(j:Int) by omega) (show(j:Int)<n by omega),hs,hso,hol,o.2 (j:Int) (by omega) (by omega),app1 (show Q.length≤10000000000 by omega) (show Nat.ble 8 1024=true from rfl)]
  have hleft:∀(l2:List Int),l2=(bif b then left' else left)→(l2.length=n∧∀w:Int,w<((j+1:Nat):Int)→In B w→idx l2 w=some (lf (rowS x w) (In B) (fun _=>False):Int)):=fun l2 e=>by
   subst e
   cases b with
   | true=>
    refine⟨by dsimp only[cond_true];omega,fun w hw hi=>?_⟩
    dsimp only[cond_true]
    rw[idx_setI hs]
    by_cases e:w=(j:Int)
    · rw[if_pos e,e]
    · rw[if_neg e];exact l.2 w (by omega) hi
   | false=>
    refine⟨l.1,fun w hw hi=>?_⟩
    by_cases e:w=(j:Int)
    · subst e;unfold In at hi;rw[hb]at hi;cases hi
    · exact l.2 w (by omega) hi
  have hin:In B (j:Int)↔b=true:=by unfold In;rw[hb];simp
  have hig:In goal (j:Int)↔g=true:=by unfold In;rw[hg];simp
  cases hbg:(b&&g) with
  | true=>
   have hb1:b=true:=by revert hbg;cases b <;> simp
   have hg1:g=true:=by revert hbg;cases b <;> simp
   subst hb1 hg1
   simp only[cond_true,Option.bind_some]
   refine⟨_,rfl,?_,?_,⟨by dsimp only;omega,?_⟩,hleft _ rfl⟩
   · dsimp only
     rw[List.nodup_append]
     exact⟨q1,by simp,fun a ha c hc=>by simp at hc;subst hc;exact fun e=>hjQ (e ▸ ha)⟩
   · intro v
     dsimp only
     rw[List.mem_append,List.mem_singleton,q2 v]
     constructor
     · rintro(⟨h1,h2,h3⟩ | rfl)
       · exact⟨by omega,h2,h3⟩
       · exact⟨by omega,hin.2 rfl,hig.2 rfl⟩
     · rintro⟨h1,h2,h3⟩
       by_cases e:v=(j:Int)
       · exact .inr e
       · exact .inl ⟨by omega,h2,h3⟩
   · intro v v0 v1
     dsimp only
     rw[idx_setI hso]
     by_cases e:v=(j:Int)
     · subst e;simp
     · rw[if_neg e,o.2 v v0 v1];simp[e]
  | false=>
   have hq:∀v,v∈Q↔v<((j+1:Nat):Int)∧In B v∧In goal v:=fun v=>by
    rw[q2 v]
    constructor
    · rintro⟨h1,h2,h3⟩;exact⟨by omega,h2,h3⟩
    · rintro⟨h1,h2,h3⟩
      refine⟨?_,h2,h3⟩
      have:v≠(j:Int):=fun e=>by
       subst e
       rw[hin.1 h2,hig.1 h3]at hbg
       cases hbg
      omega
   cases b with
   | true=>
    simp only[cond_true,cond_false,Option.bind_some]
    exact⟨_,rfl,q1,hq,o,hleft _ rfl⟩
   | false=>
    simp only[cond_false,Option.bind_some]
    exact⟨_,rfl,q1,hq,o,hleft _ rfl⟩)
 obtain⟨Q,out,left⟩:=s
 obtain⟨q1,q2,o,l⟩:=h2
 dsimp only at q1 q2 o l
 have hz:∀w,lf (rowS x w) (In B) (fun y=>y∈([]:List Int))=lf (rowS x w) (In B) (fun _=>False):=fun w=>lf_congr fun y _ _=>by simp
 refine⟨Q,out,left,h1,⟨q1,fun v hv=>((q2 v).1 hv).2.1,fun k v hk=> .inl ((q2 v).1 (List.mem_of_getElem? hk)).2.2⟩,fun v hb hg=>(q2 v).2 ⟨by have:=In_rng hB hb;omega,hb,hg⟩,fun v hv hq=>⟨fun _ y _ _ h=>by simp at h,fun ho=>?_⟩,o,l.1,fun w hw hq=>?_⟩
 · obtain⟨u,e1,e2⟩:=hN v hv
   exact⟨u,e1,e2,by simp⟩
 · rw[hz];exact l.2 w (by have:=In_rng hB hw;omega) hw
theorem s_attr {goal:List Bool}(hG:goal.length=n) (p:Bool) (hN:Par.NoDead (gS x) (In B)):∃A,s_l7Attract x B (b2i p) goal=some A∧A.length=n∧Par.IsAttr (gS x) (In B) p (In goal) (In A):=by
 have hn:=wf.n256
 obtain⟨Q0,out0,left0,i1,i2,i3,i4,i5,i6⟩:=s_att_init wf hB hG (p:=p) hN
 unfold s_l7Attract
 rw[hB,mkS_nat (by omega) rfl,Option.bind_some,mkS_nat (by omega) rfl,Option.bind_some]
 rw[hB]at i1
 rw[i1,Option.bind_some,aft_inr]
 dsimp only
 obtain⟨o,w1,w2⟩:=while_out (f:=s_l7Attract_b2 x B (b2i p)) (fun j (s:List Int×Int×List Bool×List Int)=>s.2.1=(j:Int)∧j≤s.1.length∧Cert (rowS x) (ownL x.owner) (In B) p (In goal) s.1∧(∀v,In B v→In goal v→v∈s.1)∧Trap (rowS x) (ownL x.owner) (In B) p s.1 (fun _ y=>y∈s.1.take j) ∧
  (s.2.2.1.length=n∧∀v:Int,0≤v→v<n→idx s.2.2.1 v=some (decide (v∈s.1)))∧(s.2.2.2.length=n∧∀w,In B w→w∉s.1→idx s.2.2.2 w=some (lf (rowS x w) (In B) (fun y=>y∈s.1.take j):Int))) (fun _=>False)
  (fun s=>∃Q,Cert (rowS x) (ownL x.owner) (In B) p (In goal) Q∧(∀v,In B v→In goal v→v∈Q)∧Trap (rowS x) (ownL x.owner) (In B) p Q (fun _ y=>y∈Q)∧(s.2.2.1.length=n∧∀v:Int,0≤v→v<n→idx s.2.2.1 v=some (decide (v∈Q)))) n (fun j s ⟨a1,a2,a3,a4,a5,a6,a7⟩=>by
  obtain⟨Q,i,out,left⟩:=s
  dsimp only at a1 a2 a3 a4 a5 a6 a7
  subst a1
  have hQn:=cert_len hB a3
  unfold s_l7Attract_b2
  dsimp only
  by_cases hlt:(j:Int)<(Q.length:Int)
  · have hjl:j<Q.length:=by omega
    have hu:Q[j]? =some Q[j]:=List.getElem?_eq_getElem hjl
    have hQe:Q=Q.take j++Q[j]::Q.drop (j+1):=by rw[← List.drop_eq_getElem_cons hjl,List.take_append_drop]
    generalize Q[j]=u at hu hQe
    obtain⟨u0,u1⟩:=In_rng hB (a3.mem u (List.mem_of_getElem? hu))
    obtain⟨P,hP⟩:=idx_some (xs:=x.prev) u0 (by rw[wf.lv];exact u1)
    obtain⟨p1,p2,p3⟩:=wf.prev u P hP
    simp only[hlt,decide_true,cond_true,idx_nat,hu,Option.bind_some]
    have hm0:Mid (rowS x) (ownL x.owner) (In B) p (In goal) (Q.take j) u [] Q:=by
     have:=Mid.first (T:=Q.take j) (u:=u) (R:=Q.drop (j+1)) (hQe ▸ a3) (hQe ▸ a5)
     rwa [← hQe]at this
    obtain⟨oi,v1,v2⟩:=while_out (f:=s_l7Attract_b4 x B (b2i p) u) (fun k (s:List Int×Int×List Bool×List Int)=>s.2.1=(k:Int)∧k≤P.length∧Mid (rowS x) (ownL x.owner) (In B) p (In goal) (Q.take j) u (P.take k) s.1 ∧
     (s.2.2.1.length=n∧∀v:Int,0≤v→v<n→idx s.2.2.1 v=some (decide (v∈s.1)))∧(s.2.2.2.length=n∧∀w,In B w→w∉s.1→idx s.2.2.2 w=some (lf (rowS x w) (In B) (dn (Q.take j) u (P.take k) w):Int))∧(∀v∈Q,v∈s.1)) (fun _=>False)
     (fun s=>Mid (rowS x) (ownL x.owner) (In B) p (In goal) (Q.take j) u P s.1∧(s.2.2.1.length=n∧∀v:Int,0≤v→v<n→idx s.2.2.1 v=some (decide (v∈s.1)))∧(s.2.2.2.length=n∧∀w,In B w→w∉s.1→idx s.2.2.2 w=some (lf (rowS x w) (In B) (dn (Q.take j) u P w):Int))∧(∀v∈Q,v∈s.1)) P.length (fun k s ⟨b1,b2,b3,b4,b5,b6⟩=>by
     obtain⟨Q',i',out',left'⟩:=s
     dsimp only at b1 b2 b3 b4 b5 b6
     subst b1
     by_cases hk:k<P.length
     · have hv:P[k]? =some P[k]:=List.getElem?_eq_getElem hk
       generalize P[k]=v at hv
       have hQ'n:=cert_len hB b3.cert
       obtain⟨Q2,o2,l2,c1,c2,c3,c4,c5⟩:=s_prev_step wf hB b3 (nodup_take p1 hv) hP hv (by omega) b4 b5
       refine⟨_,c1,by omega,rfl,by omega,?_,c3,?_,fun v hv=>c5 v (b6 v hv)⟩
       · rw[take_one hv];exact c2
       · rw[take_one hv];exact c4
     · unfold s_l7Attract_b4
       rw[hP,Option.bind_some]
       have:¬(k:Int)<(P.length:Int):=by omega
       dsimp only
       simp only[this,decide_false,cond_false]
       have e:P.take k=P:=List.take_of_length_le (by omega)
       rw[e]at b3 b5
       exact⟨_,rfl,b3,b4,b5,b6⟩) (2 ^ 64) 0 (Q,0,out,left) (by omega) ⟨rfl,by omega,by simpa using hm0,a6,⟨a7.1,fun w hw hq=>by
        rw[a7.2 w hw hq]
        congr 2
        exact lf_congr fun y _ _=>(dn_self0 (by simp)).symm⟩,fun _ h=>h⟩ (by omega)
    match oi,v2 with
    | .inr s,⟨c1,c2,c3,c4⟩=>
     obtain⟨Q',i',out',left'⟩:=s
     dsimp only at c1 c2 c3 c4
     have hwr:IntKind.i64.wrap ((j:Int)+1)=((j+1:Nat):Int):=by rw[wr' (by omega) (by omega)];omega
     rw[v1,Option.bind_some,aft_inr,hwr]
     have htk:Q'.take (j+1)=Q.take j++[u]:=by
      obtain⟨R,e⟩:=c1.hu
      have hjl:(Q.take j).length=j:=by rw[List.length_take];omega
      rw[e,show Q.take j++u::R=(Q.take j++[u])++R from by simp,List.take_append_of_le_length (by rw[List.length_append,hjl];simp),List.take_of_length_le (by rw[List.length_append,hjl];simp)]
     have hlen:j+1≤Q'.length:=by
      obtain⟨R,e⟩:=c1.hu
      have hjl:(Q.take j).length=j:=by rw[List.length_take];omega
      rw[e,List.length_append,hjl,List.length_cons];omega
     have hall:∀v,In B v→u∈rowS x v→v∈P:=fun v hv hu=>by
      rw[p3]
      unfold rowS at hu
      cases hr:idx x.next v with
      | none=>rw[hr]at hu;simp at hu
      | some r=>
       cases hk:idx x.pick v with
       | none=>rw[hr,hk]at hu;simp at hu
       | some k=>rw[hr,hk]at hu;exact⟨r,rfl,(List.mem_filter.1 hu).1⟩
     have hjn:j<n:=by omega
     refine⟨_,rfl,hjn,rfl,hlen,c1.cert,fun v hb hg=>c4 v (a4 v hb hg),?_,c2,c3.1,fun w hw hq=>?_⟩
     · dsimp only
       rw[htk];exact c1.last hall
     · dsimp only
       dsimp only at hq
       rw[c3.2 w hw hq,htk]
       congr 2
       exact lf_congr fun y hy _=>by
        unfold dn
        rw[List.mem_append,List.mem_singleton]
        constructor
        · rintro(h | ⟨h,_⟩)
          · exact .inl h
          · exact .inr h
        · rintro(h | h)
          · exact .inl h
          · exact .inr ⟨h,hall w hw (h ▸ hy)⟩
  · simp only[hlt,decide_false,cond_false]
    rw[List.take_of_length_le (by omega)]at a5
    exact⟨_,rfl,Q,a3,a4,a5,a6⟩) (2 ^ 64) 0 (Q0,0,out0,left0) (by omega) ⟨rfl,by omega,i2,i3,by simpa using i4,i5,by simpa using i6⟩ (by omega)
 match o,w2 with
 | .inr s,⟨Q,k1,k2,k3,k4⟩=>
  rw[w1,Option.bind_some,aft_inr]
  refine⟨_,rfl,k4.1,?_⟩
  have ha:=k1.attr (pri:=priL x.prio) k2 k3
  have e:(fun v=>v∈Q)=In s.2.2.1:=by
   funext v
   apply propext
   constructor
   · intro hv
     obtain⟨v0,v1⟩:=In_rng hB (k1.mem v hv)
     unfold In;rw[k4.2 v v0 v1];simp[hv]
   · intro hv
     have hr:=idx_rng hv
     unfold In at hv
     rw[k4.2 v hr.1 (by omega)]at hv
     simpa using hv
  rw[← e];exact ha
end
end Go.Proofs.YtmiilifclnanlaaGreat
set_option linter.unusedVariables false
set_option linter.unusedSimpArgs false
namespace Go.Proofs.YtmiilifclnanlaaGreat
open Go Go.Wk Go.Proofs
structure WfI (x:solver) (n:Nat):Prop where
 n256:n≤256
 lo:x.game.Arena.Owner.length=n
 lp:x.game.Prio.length=n
 ln:x.game.Arena.Next.length=n
 lv:x.preds.length=n
 ow:∀v o,idx x.game.Arena.Owner v=some o→o=0∨o=1
 row:∀v r,idx x.game.Arena.Next v=some r→r.length≤16∧r.Nodup∧∀u∈r,0≤u∧u<n
 prev:∀u P,idx x.preds u=some P→P.Nodup∧P.length≤100000∧∀v,v∈P↔∃r,idx x.game.Arena.Next v=some r∧u∈r
def rowI (a:Arena) (v:Int):List Int:=(idx a.Next v).getD []
def gI (g:Parity):Par.Gm:=mkG (rowI g.Arena) (ownL g.Arena.Owner) (priL g.Prio)
theorem rowI_eq {a:Arena}{v:Int}{r:List Int}(hr:idx a.Next v=some r):rowI a v=r:=by unfold rowI;rw[hr];rfl
theorem own_ne {O:List Int}{v o:Int}{p:Bool}(h:idx O v=some o) (ho:o=0∨o=1):(o !=b2i p)=decide (¬ownL O v=p):=by
 have:=own_who (p:=p) h ho
 rw[bne,this]
 by_cases h:ownL O v=p <;> simp[h]
section
variable {x:solver}{n:Nat}(wf:WfI x n){B:List Bool}(hB:B.length=n)
include wf
theorem rowI_ok (v:Int):(rowI x.game.Arena v).Nodup∧(rowI x.game.Arena v).length≤16∧∀u∈rowI x.game.Arena v,0≤u∧u<n:=by
 unfold rowI
 cases hr:idx x.game.Arena.Next v with
 | none=>simp
 | some r=>
  obtain⟨h1,h2,h3⟩:=wf.row v r hr
  exact⟨h2,h1,h3⟩
include hB
omit wf in
theorem InI_rng {v:Int}(h:In B v):0≤v∧v<n:=by
 have:=idx_rng h
 rw[hB]at this
 exact this
theorem i_count {v:Int}{r left:List Int}(hr:idx x.game.Arena.Next v=some r) (hl:left.length=n) (h0:idx left v=some 0):∃left',cntM (i_solver_pull_b4 B v r) r.length 0 left=some (.inr left')∧left'.length=n ∧
 idx left' v=some (lf r (In B) (fun _=>False):Int)∧∀w,w≠v→idx left' w=idx left w:=by
 classical
 obtain⟨r1,r2,r3⟩:=wf.row v r hr
 have hv:=idx_rng h0
 obtain⟨s,h1,h2⟩:=cnt_inv (f:=i_solver_pull_b4 B v r) (fun j (s:List Int)=>s.length=n∧idx s v=some (((r.take j).filter (fun y=>decide (In B y))).length:Int)∧∀w,w≠v→idx s w=idx left w) r.length (s:=left) ⟨hl,by simpa using h0,fun _ _=>rfl⟩ (fun j s hj ⟨q1,q2,q3⟩=>by
  have hu:r[j]? =some r[j]:=List.getElem?_eq_getElem hj
  generalize r[j]=u at hu
  obtain⟨u0,u1⟩:=r3 u (List.mem_of_getElem? hu)
  obtain⟨b,hb⟩:=idx_some (xs:=B) u0 (by omega)
  have hle:((r.take j).filter (fun y=>decide (In B y))).length≤j:=Nat.le_trans (List.length_filter_le _ _) (by rw[List.length_take];omega)
  obtain⟨s',hs,hsl⟩:=setI_some (xs:=s) (i:=v) (((r.take j).filter (fun y=>decide (In B y))).length+1:Int) (by omega) (by omega)
  unfold i_solver_pull_b4
  simp only[idx_nat,hu,Option.bind_some,hb,q2]
  rw[wr' (by omega) (by omega)]
  have htk:(r.take (j+1)).filter (fun y=>decide (In B y))=(r.take j).filter (fun y=>decide (In B y))++(if b then[u] else[]):=by
   rw[take_one hu,List.filter_append];congr 1
   have:In B u↔b=true:=by unfold In;rw[hb];simp
   cases b with
   | true=>simp[this]
   | false=>simp[this]
  cases b with
  | true=>
   simp only[cond_true,hs,Option.bind_some]
   refine⟨_,rfl,by omega,?_,fun w hw=>?_⟩
   · rw[idx_setI hs,if_pos rfl,htk];simp
   · rw[idx_setI hs,if_neg hw];exact q3 w hw
  | false=>
   simp only[cond_false,Option.bind_some]
   exact⟨_,rfl,q1,by rw[htk];simpa using q2,q3⟩)
 rw[List.take_length]at h2
 refine⟨s,h1,h2.1,?_,h2.2.2⟩
 rw[h2.2.1]
 unfold lf
 congr 3
 apply List.filter_congr
 intro u _
 simp
def LI (x:solver) (B:List Bool) (left:List Int) (w:Int) (d:Int→Prop):Prop:=idx left w=some (lf (rowI x.game.Arena w) (In B) d:Int)∨(idx left w=some 0∧∀y∈rowI x.game.Arena w,In B y→¬d y)
omit wf hB in
theorem LI.congr {left:List Int}{w:Int}{d d':Int→Prop}(h:LI x B left w d) (e:∀y∈rowI x.game.Arena w,In B y→(d y↔d' y)):LI x B left w d':=by
 rcases h with h | ⟨h1,h2⟩
 · left;rw[h];congr 2;exact lf_congr e
 · right;exact⟨h1,fun y hy hi hd=>h2 y hy hi ((e y hy hi).2 hd)⟩
theorem i_prev_step {goal:Int→Prop}{p:Bool}{T L Q R:List Int}{u v:Int}{out:List Bool}{left:List Int}(hm:Mid (rowI x.game.Arena) (ownL x.game.Arena.Owner) (In B) p goal T u L Q) (hR:Q=T++u::R) (hvL:v∉L)
 {P:List Int} {j:Nat} (hP:idx x.preds u=some P) (hj:P[j]? =some v) (hQ:Q.length≤100000)
 (ho:out.length=n∧∀v:Int,0≤v→v<n→idx out v=some (decide (v∈Q))) (hl:left.length=n∧∀v,In B v→v∉Q→¬ownL x.game.Arena.Owner v=p→LI x B left v (dn T u L v)):
 ∃R' out' left',i_solver_pull_b2 x (b2i p) B P (j:Int) (R,out,left)=some (.inr (.inr (R',out',left')))∧Mid (rowI x.game.Arena) (ownL x.game.Arena.Owner) (In B) p goal T u (L++[v]) (T++u::R') ∧
  (out'.length=n∧∀v:Int,0≤v→v<n→idx out' v=some (decide (v∈T++u::R')))∧(left'.length=n∧∀w,In B w→w∉T++u::R'→¬ownL x.game.Arena.Owner w=p→LI x B left' w (dn T u (L++[v]) w))∧(∀v∈Q,v∈T++u::R'):=by
 have hn:=wf.n256
 obtain⟨p1,p2,p3⟩:=wf.prev u P hP
 obtain⟨r,hr,hur⟩:=(p3 v).1 (List.mem_of_getElem? hj)
 have hre:=rowI_eq hr
 obtain⟨v0,v1⟩:=idx_rng hr
 rw[wf.ln]at v1
 obtain⟨b,hb⟩:=idx_some (xs:=B) v0 (by omega)
 obtain⟨w,hw⟩:=idx_some (xs:=x.game.Arena.Owner) v0 (by rw[wf.lo];exact v1)
 have hRl:R.length≤100000:=by
  have:=congrArg List.length hR
  rw[List.length_append,List.length_cons]at this;omega
 unfold i_solver_pull_b2
 rw[idx_nat,hj,Option.bind_some,ho.2 v v0 v1,Option.bind_some,hb]
 dsimp only
 simp only[Option.bind_some,orE]
 have hadd:∀left2:List Int,(left2.length=n∧∀w,w≠v→idx left2 w=idx left w)→In B v→v∉Q→(ownL x.game.Arena.Owner v=p∨lf (rowI x.game.Arena v) (In B) (fun y=>y∈T∨y=u)=0) →
  ∃R' out' left',(Option.bind (setI out v true) fun y59=>Option.bind (appS 8 R [v]) fun x114=>(some (.inr (.inr (x114,y59,left2))):Option (List Bool⊕((List Int×List Bool×List Int)⊕(List Int×List Bool×List Int)))))=some (.inr (.inr (R',out',left')))∧Mid (rowI x.game.Arena) (ownL x.game.Arena.Owner) (In B) p goal T u (L++[v]) (T++u::R') ∧
  (out'.length=n∧∀v:Int,0≤v→v<n→idx out' v=some (decide (v∈T++u::R')))∧(left'.length=n∧∀w,In B w→w∉T++u::R'→¬ownL x.game.Arena.Owner w=p→LI x B left' w (dn T u (L++[v]) w))∧(∀v∈Q,v∈T++u::R'):=fun left2 ⟨l1,l2⟩ hi hq hc=>by
  obtain⟨out',hso,hsol⟩:=setI_some (xs:=out) (i:=v) true v0 (by omega)
  have hQ':T++u::(R++[v])=Q++[v]:=by rw[hR];simp
  refine⟨R++[v],out',left2,by rw[hso,Option.bind_some,app1 (by omega) rfl,Option.bind_some],?_,⟨by omega,fun y y0 y1=>?_⟩,⟨l1,fun w hw hq' hop=>?_⟩,fun y hy=>by rw[hQ'];exact List.mem_append_left _ hy⟩
  · rw[hQ'];exact hm.add hi hq (hre ▸ hur) hc
  · rw[idx_setI hso,hQ']
    by_cases e:y=v
    · subst e;simp
    · rw[if_neg e,ho.2 y y0 y1];simp[e]
  · rw[hQ',List.mem_append,List.mem_singleton,not_or]at hq'
    have:=hl.2 w hw hq'.1 hop
    unfold LI at this ⊢
    rw[l2 w hq'.2]
    exact LI.congr (left:=left) this fun y _ _=>(dn_other hq'.2).symm
 by_cases hsk:(decide (v∈Q) || !b)=true
 · rw[hsk,cond_true]
   have hcond:¬In B v∨v∈Q∨u∉rowI x.game.Arena v:=by
    simp only[Bool.or_eq_true,Bool.not_eq_true',decide_eq_true_eq]at hsk
    rcases hsk with h | h
    · exact .inr (.inl h)
    · left;unfold In;rw[hb,h];simp
   subst hR
   refine⟨R,out,left,rfl,hm.skip hcond,ho,⟨hl.1,fun y hy hq hop=>?_⟩,fun _ h=>h⟩
   refine LI.congr (hl.2 y hy hq hop) fun z hz _=>?_
   by_cases e:y=v
   · subst e
     rcases hcond with h | h | h
     · exact absurd hy h
     · exact absurd h hq
     · have:z≠u:=fun e=>h (e ▸ hz)
       unfold dn;simp[this]
   · exact(dn_other e).symm
 · simp only[Bool.not_eq_true,Bool.or_eq_false_iff,Bool.not_eq_false',decide_eq_false_iff_not]at hsk
   obtain⟨h2,h1⟩:=hsk
   subst h1
   have hi:In B v:=hb
   have hu:u∈rowI x.game.Arena v:=hre ▸ hur
   simp only[h2,decide_false,Bool.not_true,Bool.or_false,cond_false,hw,Option.bind_some,own_ne hw (wf.ow v w hw)]
   by_cases hop:ownL x.game.Arena.Owner v=p
   · have:decide (¬ownL x.game.Arena.Owner v=p)=false:=by simp[hop]
     simp only[this,cond_false]
     exact hadd left ⟨hl.1,fun _ _=>rfl⟩ hi h2 (.inl hop)
   · have:decide (¬ownL x.game.Arena.Owner v=p)=true:=by simp[hop]
     simp only[this,cond_true]
     have hlf:lf (rowI x.game.Arena v) (In B) (fun y=>y∈T∨y=u)+1=lf (rowI x.game.Arena v) (In B) (dn T u L v):=by
      rw[lf_step (rowI_ok wf v).1 hu hm.u_in.2.2 hm.u_in.2.1]
      exact lf_congr fun y _ _=>(dn_self0 hvL).symm
     have hlle:lf (rowI x.game.Arena v) (In B) (dn T u L v)≤16:=Nat.le_trans lf_le (rowI_ok wf v).2.1
     -- the count, made or known
     have hcount:∃l7,(Option.bind (idx left v) fun x69=>(bif (x69==0) then
      Option.bind (idx x.game.Arena.Next v) fun x79=>
      Option.bind (cntM (i_solver_pull_b4 B v x79) x79.length 0 left) fun q9=>
      aft (fun r=>none) (fun s10=>
       some (s10:(List Int))) q9
      else
       some left))=some l7∧l7.length=n∧idx l7 v=some (lf (rowI x.game.Arena v) (In B) (dn T u L v):Int)∧∀w,w≠v→idx l7 w=idx left w:=by
      have hz:=hl.2 v hi h2 hop
      by_cases h0:idx left v=some 0
      · obtain⟨l7,k1,k2,k3,k4⟩:=i_count wf hB hr hl.1 h0
        refine⟨l7,?_,k2,?_,k4⟩
        · simp only[h0,Option.bind_some,hr,k1,aft_inr]
          rfl
        · rw[k3,hre]
          congr 2
          rcases hz with h | ⟨_,h⟩
          · rw[h0]at h
            have:=Option.some.inj h
            omega
          · exact lf_congr fun y hy hi=>⟨fun h=>h.elim,fun hd=>h y (by rw[hre];exact hy) hi hd⟩
      · rcases hz with h | ⟨h,_⟩
        · refine⟨left,?_,hl.1,h,fun _ _=>rfl⟩
          have:((lf (rowI x.game.Arena v) (In B) (dn T u L v):Int)==0)=false:=by
           have:lf (rowI x.game.Arena v) (In B) (dn T u L v)≠0:=fun e=>h0 (by rw[h,e];rfl)
           simp[this]
          simp only[h,Option.bind_some,this,cond_false]
        · exact absurd h h0
     obtain⟨l7,c1,c2,c3,c4⟩:=hcount
     have hsplit:∀{β:Type} (f:List Int→Option β),(Option.bind (idx left v) fun x69=>Option.bind (bif (x69==0) then
      Option.bind (idx x.game.Arena.Next v) fun x79=>
      Option.bind (cntM (i_solver_pull_b4 B v x79) x79.length 0 left) fun q9=>
      aft (fun r=>none) (fun s10=>
       some (s10:(List Int))) q9
      else
       some left) f)=Option.bind (some l7) f:=fun f=>by rw[← c1];cases idx left v <;> rfl
     rw[hsplit,Option.bind_some,c3,Option.bind_some,Option.bind_some]
     have hwrl:IntKind.i64.wrap ((lf (rowI x.game.Arena v) (In B) (dn T u L v):Int)-1)=(lf (rowI x.game.Arena v) (In B) (fun y=>y∈T∨y=u):Int):=by rw[wr' (by omega) (by omega)];omega
     obtain⟨l8,hs,hsl⟩:=setI_some (xs:=l7) (i:=v) (lf (rowI x.game.Arena v) (In B) (fun y=>y∈T∨y=u):Int) v0 (by omega)
     have hnew:idx l8 v=some (lf (rowI x.game.Arena v) (In B) (fun y=>y∈T∨y=u):Int):=by rw[idx_setI hs,if_pos rfl]
     have hoth:∀w,w≠v→idx l8 w=idx left w:=fun w hw=>by rw[idx_setI hs,if_neg hw,c4 w hw]
     rw[hwrl,hs,Option.bind_some,hnew,Option.bind_some]
     by_cases hc:lf (rowI x.game.Arena v) (In B) (fun y=>y∈T∨y=u)=0
     · have:decide ((0:Int)<(lf (rowI x.game.Arena v) (In B) (fun y=>y∈T∨y=u):Int))=false:=by simp[hc]
       rw[this,cond_false]
       exact hadd l8 ⟨by omega,hoth⟩ hi h2 (.inr hc)
     · have:decide ((0:Int)<(lf (rowI x.game.Arena v) (In B) (fun y=>y∈T∨y=u):Int))=true:=by simp;omega
       rw[this,cond_true]
       subst hR
       refine⟨R,out,l8,rfl,hm.stay hop hc,ho,⟨by omega,fun w hw hq hop'=>?_⟩,fun _ h=>h⟩
       by_cases e:w=v
       · subst e
         left
         rw[hnew]
         congr 2
         exact lf_congr fun y _ _=>dn_self.symm
       · have:=hl.2 w hw hq hop'
         unfold LI at this ⊢
         rw[hoth w e]
         exact LI.congr (left:=left) this fun y _ _=>(dn_other e).symm
end
end Go.Proofs.YtmiilifclnanlaaGreat
set_option linter.unusedVariables false
set_option linter.unusedSimpArgs false
namespace Go.Proofs.YtmiilifclnanlaaGreat
open Go Go.Wk Go.Proofs
def hasN (N:List (List Int)) (u:Int) (v:Nat):Bool:=match N[v]? with
 | some r=>decide (u∈r)
 | none=>false
def prevL (N:List (List Int)) (u:Int) (j:Nat):List Int:=((List.range j).filter (hasN N u)).map Int.ofNat
theorem prevL_succ (N:List (List Int)) (u:Int) (j:Nat):prevL N u (j+1)=prevL N u j++(if hasN N u j=true then[(j:Int)] else[]):=by
 unfold prevL
 rw[List.range_succ,List.filter_append,List.map_append]
 congr 1
 by_cases h:hasN N u j=true
 · rw[if_pos h,List.filter_cons,if_pos h];rfl
 · rw[if_neg h,List.filter_cons,if_neg h];rfl
theorem nodup_mapN:∀{xs:List Nat},xs.Nodup→(xs.map Int.ofNat).Nodup
 | [],_=>by simp
 | x::xs,h=>by
  obtain⟨h1,h2⟩:=List.nodup_cons.1 h
  rw[List.map_cons,List.nodup_cons]
  refine⟨fun hm=>?_,nodup_mapN h2⟩
  obtain⟨y,hy,e⟩:=List.mem_map.1 hm
  have:y=x:=Int.ofNat.inj e
  exact h1 (this ▸ hy)
theorem prevL_nodup (N:List (List Int)) (u:Int) (j:Nat):(prevL N u j).Nodup:=by
 unfold prevL
 exact nodup_mapN (List.nodup_range.filter _)
theorem prevL_len (N:List (List Int)) (u:Int) (j:Nat):(prevL N u j).length≤j:=by
 unfold prevL
 rw[List.length_map]
 exact Nat.le_trans (List.length_filter_le _ _) (by rw[List.length_range];omega)
theorem mem_prevL {N:List (List Int)}{u v:Int}{n:Nat}(hn:N.length=n):v∈prevL N u n↔∃r,idx N v=some r∧u∈r:=by
 unfold prevL
 rw[List.mem_map]
 constructor
 · rintro⟨w,hw,rfl⟩
   obtain⟨h1,h2⟩:=List.mem_filter.1 hw
   unfold hasN at h2
   rw[List.mem_range]at h1
   have e:N[w]? =some N[w]:=List.getElem?_eq_getElem (by omega)
   rw[e]at h2
   exact⟨N[w],by rw[show(Int.ofNat w)=(w:Int) from rfl,idx_nat,e],by simpa using h2⟩
 · rintro⟨r,hr,hu⟩
   obtain⟨h0,h1⟩:=idx_rng hr
   obtain⟨w,hw⟩:=ex_nat h0
   subst hw
   rw[idx_nat]at hr
   refine⟨w,List.mem_filter.2 ⟨List.mem_range.2 (by omega),?_⟩,rfl⟩
   unfold hasN
   rw[hr]
   simpa using hu
def PrevM (N:List (List Int)) (n j:Nat) (row:List Int) (i:Nat) (t:List (List Int)):Prop:=t.length=n∧∀u:Int,0≤u→u<n→idx t u=some (prevL N u j++(if u∈row.take i then[(j:Int)] else[]))
def PrevT (N:List (List Int)) (n j:Nat) (t:List (List Int)):Prop:=t.length=n∧∀u:Int,0≤u→u<n→idx t u=some (prevL N u j)
theorem PrevT.zero {N:List (List Int)}{n:Nat}:PrevT N n 0 (List.replicate n []):=⟨by simp,fun u u0 u1=>by
 rw[idx_int u0,List.getElem?_replicate,if_pos (by omega)];rfl⟩
theorem PrevT.first {N:List (List Int)}{n j:Nat}{t:List (List Int)}(h:PrevT N n j t) (row:List Int):PrevM N n j row 0 t:=⟨h.1,fun u u0 u1=>by rw[h.2 u u0 u1];simp⟩
theorem PrevM.last {N:List (List Int)}{n j:Nat}{row:List Int}{t:List (List Int)}(hr:N[j]? =some row) (h:PrevM N n j row row.length t):PrevT N n (j+1) t:=⟨h.1,fun u u0 u1=>by
 rw[h.2 u u0 u1,prevL_succ,List.take_length]
 unfold hasN
 rw[hr]
 by_cases hu:u∈row <;> simp[hu]⟩
theorem PrevM.step {N:List (List Int)}{n j i:Nat}{row:List Int}{t:List (List Int)}{u:Int}(h:PrevM N n j row i t) (hu:row[i]? =some u) (hn:row.Nodup) (u0:0≤u) (u1:u<n):
 ∃old,idx t u=some old∧old.length≤j+1∧∃t',setI t u (old++[(j:Int)])=some t'∧PrevM N n j row (i+1) t':=by
 refine⟨_,h.2 u u0 u1,?_,?_⟩
 · have:=prevL_len N u j
   rw[List.length_append]
   split
   · simp;omega
   · simp;omega
 · have hnot:u∉row.take i:=by
    have h2:=hn.sublist (List.take_sublist (i+1) row)
    rw[List.take_add_one,hu,List.nodup_append]at h2
    exact fun hm=>h2.2.2 u hm u (by simp) rfl
   obtain⟨t',h1,h2⟩:=setI_some (xs:=t) (i:=u) (prevL N u j++(if u∈row.take i then[(j:Int)] else[])++[(j:Int)]) u0 (by rw[h.1];exact u1)
   refine⟨t',h1,by rw[h2];exact h.1,fun w w0 w1=>?_⟩
   have htk:row.take (i+1)=row.take i++[u]:=by rw[List.take_add_one,hu];rfl
   rw[idx_setI h1,htk]
   by_cases e:w=u
   · subst e
     rw[if_pos rfl,if_neg hnot]
     simp
   · rw[if_neg e,h.2 w w0 w1]
     congr 2
     simp[e]
def marksL (B:List Bool) (j:Nat):List Int:=((List.range j).filter (fun v=>B[v]?.getD false)).map Int.ofNat
theorem marksL_succ {B:List Bool}{j:Nat}{b:Bool}(h:B[j]? =some b):marksL B (j+1)=marksL B j++(if b=true then[(j:Int)] else[]):=by
 unfold marksL
 rw[List.range_succ,List.filter_append,List.map_append]
 congr 1
 rw[List.filter_cons,h]
 cases b <;> rfl
theorem marksL_nodup (B:List Bool) (j:Nat):(marksL B j).Nodup:=by
 unfold marksL
 exact nodup_mapN (List.nodup_range.filter _)
theorem marksL_len (B:List Bool) (j:Nat):(marksL B j).length≤j:=by
 unfold marksL
 rw[List.length_map]
 exact Nat.le_trans (List.length_filter_le _ _) (by rw[List.length_range];omega)
theorem mem_marksL {B:List Bool}{v:Int}:v∈marksL B B.length↔In B v:=by
 unfold marksL In
 rw[List.mem_map]
 constructor
 · rintro⟨w,hw,rfl⟩
   obtain⟨h1,h2⟩:=List.mem_filter.1 hw
   rw[List.mem_range]at h1
   rw[show(Int.ofNat w)=(w:Int) from rfl,idx_nat]
   have e:B[w]? =some B[w]:=List.getElem?_eq_getElem h1
   rw[e]at h2 ⊢
   simpa using h2
 · intro h
   obtain⟨h0,h1⟩:=idx_rng h
   obtain⟨w,hw⟩:=ex_nat h0
   subst hw
   rw[idx_nat]at h
   exact⟨w,List.mem_filter.2 ⟨List.mem_range.2 (by omega),by rw[h];rfl⟩,rfl⟩
theorem nodup_sub {ys:List Int}:∀{xs:List Int},xs.Nodup→(∀x∈xs,x∈ys)→xs.length≤ys.length:=by
 induction ys with
 | nil=>
  intro xs _ h
  cases xs with
  | nil=>simp
  | cons x xs=>exact absurd (h x (List.mem_cons_self ..)) (by simp)
 | cons y ys ih=>
  intro xs hn h
  by_cases hm:y∈xs
  · have h1:=List.length_erase_of_mem hm
    have h2:=ih (xs:=xs.erase y) (hn.erase _) (fun x hx=>by
     rw[hn.mem_erase_iff]at hx
     exact(List.mem_cons.1 (h x hx.2)).resolve_left hx.1)
    rw[List.length_cons]
    omega
  · have:=ih (xs:=xs) hn (fun x hx=>(List.mem_cons.1 (h x hx)).resolve_left fun e=>hm (e ▸ hx))
    rw[List.length_cons]
    omega
def cnt (B:List Bool):Nat:=(marksL B B.length).length
theorem cnt_le (B:List Bool):cnt B≤B.length:=marksL_len _ _
theorem cnt_sub {A B:List Bool}(h:∀v,In A v→In B v):cnt A≤cnt B:=by
 unfold cnt
 exact nodup_sub (marksL_nodup _ _) fun v hv=>mem_marksL.2 (h v (mem_marksL.1 hv))
theorem cnt_lt {A B:List Bool}(h:∀v,In A v→In B v){w:Int}(hw:In B w) (hn:¬In A w):cnt A<cnt B:=by
 have hs:∀v∈w::marksL A A.length,v∈marksL B B.length:=fun v hv=>by
  rcases List.mem_cons.1 hv with rfl | hv
  · exact mem_marksL.2 hw
  · exact mem_marksL.2 (h v (mem_marksL.1 hv))
 have hd:(w::marksL A A.length).Nodup:=List.nodup_cons.2 ⟨fun hm=>hn (mem_marksL.1 hm),marksL_nodup _ _⟩
 have:=nodup_sub hd hs
 rw[List.length_cons]at this
 exact this
theorem cnt_zero {B:List Bool}(h:cnt B=0) (v:Int):¬In B v:=fun hv=>by
 have:=mem_marksL.2 hv
 unfold cnt at h
 rw[List.length_eq_zero_iff]at h
 rw[h]at this
 cases this
end Go.Proofs.YtmiilifclnanlaaGreat
set_option linter.unusedVariables false
set_option linter.unusedSimpArgs false
namespace Go.Proofs.YtmiilifclnanlaaGreat
open Go Go.Wk Go.Proofs
theorem fill {ρ α:Type}{f:Int→List α→Option (ρ⊕(List α⊕List α))}(val:Nat→α) (n:Nat){s0:List α}(h0:s0.length=n)
 (step:∀(j:Nat) s,j<n→s.length=n→f (j:Int) s=Option.bind (idx s (j:Int)) fun _=>Option.bind (setI s (j:Int) (val j)) fun y=>some (.inr (.inr y))):
 ∃s,cntM f n 0 s0=some (.inr s)∧s.length=n∧∀j:Nat,j<n→idx s (j:Int)=some (val j):=by
 obtain⟨s,h1,h2,h3⟩:=cnt_inv (f:=f) (fun j (s:List α)=>s.length=n∧∀i:Nat,i<j→idx s (i:Int)=some (val i)) n (s:=s0) ⟨h0,fun i hi=>absurd hi (Nat.not_lt_zero i)⟩ (fun j s hj ⟨q1,q2⟩=>by
  obtain⟨old,ho⟩:=idx_some (xs:=s) (i:=(j:Int)) (by omega) (by omega)
  obtain⟨s',hs,hl⟩:=setI_some (xs:=s) (i:=(j:Int)) (val j) (by omega) (by omega)
  rw[step j s hj q1,ho,Option.bind_some,hs,Option.bind_some]
  refine⟨_,rfl,by omega,fun i hi=>?_⟩
  rw[idx_setI hs]
  by_cases e:(i:Int)=(j:Int)
  · have:i=j:=by omega
    subst this
    rw[if_pos rfl]
  · rw[if_neg e];exact q2 i (by omega))
 exact⟨s,h1,h2,h3⟩
theorem fillB {ρ:Type}{f:Int→List Bool→Option (ρ⊕(List Bool⊕List Bool))}(P:Int→Prop) [∀v,Decidable (P v)] (n:Nat){s0:List Bool}(h0:s0.length=n)
 (step:∀(j:Nat) s,j<n→s.length=n→f (j:Int) s=Option.bind (idx s (j:Int)) fun _=>Option.bind (setI s (j:Int) (decide (P (j:Int)))) fun y=>some (.inr (.inr y))) (hP:∀v,P v→0≤v∧v<n):
 ∃s,cntM f n 0 s0=some (.inr s)∧s.length=n∧∀v,In s v↔P v:=by
 obtain⟨s,h1,h2,h3⟩:=fill (f:=f) (fun j=>decide (P (j:Int))) n h0 step
 refine⟨s,h1,h2,fun v=>?_⟩
 constructor
 · intro h
   obtain⟨v0,v1⟩:=idx_rng h
   obtain⟨j,hj⟩:=ex_nat v0
   subst hj
   have:=h3 j (by omega)
   unfold In at h
   rw[h]at this
   exact of_decide_eq_true (Option.some.inj this).symm
 · intro h
   obtain⟨v0,v1⟩:=hP v h
   obtain⟨j,hj⟩:=ex_nat v0
   subst hj
   unfold In
   rw[h3 j (by omega),decide_eq_true h]
instance (B:List Bool) (v:Int):Decidable (In B v):=by unfold In;exact inferInstance
theorem In_dec {B:List Bool}{v:Int}{b:Bool}(h:idx B v=some b):b=decide (In B v):=by
 have:In B v↔b=true:=by unfold In;rw[h];simp
 rw[Bool.eq_iff_iff];simp[this]
theorem In_get {B:List Bool}{v:Int}(h0:0≤v) (h1:v<B.length):idx B v=some (decide (In B v)):=by
 obtain⟨b,hb⟩:=idx_some (xs:=B) h0 h1
 rw[← In_dec hb];exact hb
theorem In_of {B:List Bool}{n:Nat}(hB:B.length=n){v:Int}(h:In B v):0≤v∧v<n:=by
 have:=idx_rng h
 rw[hB]at this
 exact this
end Go.Proofs.YtmiilifclnanlaaGreat
set_option linter.unusedVariables false
set_option linter.unusedSimpArgs false
namespace Go.Proofs.YtmiilifclnanlaaGreat
open Go Go.Wk Go.Proofs
theorem listI_eq {B:List Bool}(hl:B.length≤1000000):i_listOf B=some (marksL B B.length):=by
 obtain⟨s,h1,h2⟩:=cnt_inv (f:=i_listOf_b0 B) (fun j (s:List Int)=>s=marksL B j) B.length (s:=[]) rfl (fun j s hj hs=>by
  subst hs
  have hb:B[j]? =some B[j]:=List.getElem?_eq_getElem hj
  generalize B[j]=b at hb
  have hlen:=marksL_len B j
  unfold i_listOf_b0
  rw[idx_nat,hb,Option.bind_some,marksL_succ hb]
  cases b with
  | true=>
   simp only[cond_true]
   rw[app1 (by omega) rfl,Option.bind_some,Option.bind_some]
   exact⟨_,rfl,rfl⟩
  | false=>
   simp only[cond_false,Option.bind_some]
   exact⟨_,rfl,by simp⟩)
 unfold i_listOf
 rw[h1,Option.bind_some,aft_inr,h2]
theorem without_eq {A B:List Bool}{n:Nat}(hA:A.length=n) (hB:B.length=n) (hn:n≤256):∃R,i_without A B=some R∧R.length=n∧∀v,In R v↔In A v∧¬In B v:=by
 unfold i_without
 rw[hA,mkS_nat (by omega) rfl,Option.bind_some]
 obtain⟨R,h1,h2,h3⟩:=fillB (f:=i_without_b0 A B) (fun v=>In A v∧¬In B v) n (s0:=List.replicate n false) (by simp) (fun j s hj hs=>by
  unfold i_without_b0
  rw[In_get (B:=A) (by omega) (by omega),Option.bind_some,In_get (B:=B) (by omega) (by omega),Option.bind_some,andE,Option.bind_some]
  congr 1
  funext _
  congr 2
  rw[Bool.eq_iff_iff];simp) (fun v hv=>In_of hA hv.1)
 rw[h1,Option.bind_some,aft_inr]
 exact⟨R,rfl,h2,h3⟩
end Go.Proofs.YtmiilifclnanlaaGreat
