/- The reference's attractor, whole. -/
import Derived.Test.YtleekpaohfpooaaGreatL0VF
set_option linter.unusedVariables false
set_option linter.unusedSimpArgs false
open Option renaming bind → bD, bind_some → bG
open List renaming getElem?_eq_getElem → bI, getElem?_eq_some_iff → bJ, replicate → bK, mem_of_getElem? → bL, getElem?_replicate → gs, length_append → zF, mem_singleton → zG, length_cons → zI, length_take → zJ, length_nil → zK, getElem?_eq_none → zM, mem_append → zN, take_add_one → zO, length_map → zQ
open Bool renaming and_eq_true → n6, not_true → sh, eq_iff_iff → zL
open Int renaming toNat_natCast → zH
namespace Go.Proofs.YtleekpaohfpooaaGreat
open Go Go.Wk Go.Proofs
def gS (x:l7Game):Par.Gm:=mkG (rowS x) (ownL x.owner) (priL x.prio)
theorem qA {α:Type}{xs:List α}{j:Nat}{y:α}(h:xs[j]? =some y):xs.take (j+1)=xs.take j++[y]:=by rw[zO,h];rfl
theorem uu {xs:List Int}{j:Nat}{y:Int}(hn:xs.Nodup) (h:xs[j]? =some y):y∉xs.take j:=by
 have a:=hn.sublist (List.take_sublist (j+1) xs)
 rw[qA h,List.nodup_append]at a
 exact λhm=>a.2.2 y hm y (by simp) rfl
section
variable {x:l7Game}{n:Nat}(wf:WfS x n){B:List Bool}(hB:B.length=n)
include wf hB
omit wf in
theorem sY {p:Bool}{goal:Int->Prop}{Q:List Int}(h:Cert (rowS x) (ownL x.owner) (In B) p goal Q):Q.length<=n:=di n Q h.nd λv a=>mM hB (h.mem v a)
theorem uI {goal:List Bool}(X:goal.length=n){p:Bool}(P:Par.NoDead (gS x) (In B)):∃Q out left,cntM (fl x B goal) B.length 0 ([],bK n false,bK n 0)=some (.inr (Q,out,left)) /\
 Cert (rowS x) (ownL x.owner) (In B) p (In goal) Q/\(∀v,In B v->In goal v->v∈Q)/\Trap (rowS x) (ownL x.owner) (In B) p Q (λ_ y=>y∈([]:List Int)) /\
 (out.length=n/\∀v:Int,0<=v->v<n->idx out v=some (decide (v∈Q)))/\(left.length=n/\∀w,In B w->w∉Q->idx left w=some (lf (rowS x w) (In B) (λy=>y∈([]:List Int)):Int)):=by
 have hn:=wf.n256
 obtain⟨s,h1,m⟩:=cJ (f:=fl x B goal) (λj (s:List Int×List Bool×List Int)=>s.1.Nodup/\(∀v,v∈s.1↔v<(j:Int)/\In B v/\In goal v) /\
  (s.2.1.length=n/\∀v:Int,0<=v->v<n->idx s.2.1 v=some (decide (v∈s.1)))/\(s.2.2.length=n/\∀w:Int,w<(j:Int)->In B w->idx s.2.2 w=some (lf (rowS x w) (In B) (λ_=>False):Int))) B.length (s:=([],bK n false,bK n 0))
  ⟨by simp,λv=>⟨λh=>by simp at h,λ⟨h,hb,_⟩=>by have:=(mM hB hb).1;omega⟩,⟨by simp,λv I M=>by
   rw[cY I,gs,if_pos (by omega)];simp⟩,⟨by simp,λw C hb=>by have:=(mM hB hb).1;omega⟩⟩ (λj s hj ⟨t,q,o,l⟩=>by
  obtain⟨Q,out,left⟩:=s
  dsimp only at t q o l
  rw[hB]at hj
  obtain⟨b,hb⟩:=cT (xs:=B) (i:=(j:Int)) (by omega) (by omega)
  obtain⟨g,E⟩:=cT (xs:=goal) (i:=(j:Int)) (by omega) (by omega)
  have Z:Q.length<=n:=di n Q t λv A=>mM hB ((q v).1 A).2.1
  have T:(j:Int)∉Q:=λh=>by have:=((q _).1 h).1;omega
  have aa:=yu (row:=rowS x (j:Int)) (inn:=In B) (d:=λ_=>False)
  have Y:=(sn wf (j:Int)).2.1
  obtain⟨W,hs,ac⟩:=eu (xs:=left) (i:=(j:Int)) (lf (rowS x (j:Int)) (In B) (λ_=>False):Int) (by omega) (by omega)
  obtain⟨af,L,ad⟩:=eu (xs:=out) (i:=(j:Int)) true (by omega) (by omega)
  obtain⟨ae,U⟩:=cT (xs:=left) (i:=(j:Int)) (by omega) (by omega)
  unfold fl
  dsimp only
  simp only[hb,bG,E,andE,xg wf hB (show 0<=(j:Int) by omega) (show(j:Int)<n by omega),hs,L,U,o.2 (j:Int) (by omega) (by omega),app1 (show Q.length<=10000000000 by omega) (show Nat.ble 8 1024=true from rfl)]
  have H:∀(G:List Int),G=(bif b then W else left)->(G.length=n/\∀w:Int,w<((j+1:Nat):Int)->In B w->idx G w=some (lf (rowS x w) (In B) (λ_=>False):Int)):=λG e=>by
   subst e
   cases b with
   | true=>
    refine⟨by dsimp only[cond_true];omega,λw C z=>?_⟩
    dsimp only[cond_true]
    rw[fa hs]
    by_cases e:w=(j:Int)
    · rw[if_pos e,e]
    · rw[if_neg e];exact l.2 w (by omega) z
   | false=>
    refine⟨l.1,λw C z=>?_⟩
    by_cases e:w=(j:Int)
    · subst e;unfold In at z;rw[hb]at z;cases z
    · exact l.2 w (by omega) z
  have K:In B (j:Int)↔b=true:=by unfold In;rw[hb];simp
  have J:In goal (j:Int)↔g=true:=by unfold In;rw[E];simp
  cases D:(b&&g) with
  | true=>
   have R:b=true:=by revert D;cases b <;> simp
   have S:g=true:=by revert D;cases b <;> simp
   subst R S
   simp only[cond_true,bG]
   refine⟨_,rfl,?_,?_,⟨by dsimp only;omega,?_⟩,H _ rfl⟩
   · dsimp only
     rw[List.nodup_append]
     exact⟨t,by simp,λa ha c hc=>by simp at hc;subst hc;exact λe=>T (e ▸ ha)⟩
   · intro v
     dsimp only
     rw[zN,zG,q v]
     constructor
     · rintro(⟨h1,m,r⟩ | rfl)
       · exact⟨by omega,m,r⟩
       · exact⟨by omega,K.2 rfl,J.2 rfl⟩
     · rintro⟨h1,m,r⟩
       by_cases e:v=(j:Int)
       · exact .inr e
       · exact .inl ⟨by omega,m,r⟩
   · intro v I M
     dsimp only
     rw[fa L]
     by_cases e:v=(j:Int)
     · subst e;simp
     · rw[if_neg e,o.2 v I M];simp[e]
  | false=>
   have F:∀v,v∈Q↔v<((j+1:Nat):Int)/\In B v/\In goal v:=λv=>by
    rw[q v]
    constructor
    · rintro⟨h1,m,r⟩;exact⟨by omega,m,r⟩
    · rintro⟨h1,m,r⟩
      refine⟨?_,m,r⟩
      have:v≠(j:Int):=λe=>by
       subst e
       rw[K.1 m,J.1 r]at D
       cases D
      omega
   cases b with
   | true=>
    simp only[cond_true,cond_false,bG]
    exact⟨_,rfl,t,F,o,H _ rfl⟩
   | false=>
    simp only[cond_false,bG]
    exact⟨_,rfl,t,F,o,H _ rfl⟩)
 obtain⟨Q,out,left⟩:=s
 obtain⟨t,q,o,l⟩:=m
 dsimp only at t q o l
 have V:∀w,lf (rowS x w) (In B) (λy=>y∈([]:List Int))=lf (rowS x w) (In B) (λ_=>False):=λw=>jk λy _ _=>by simp
 refine⟨Q,out,left,h1,⟨t,λv A=>((q v).1 A).2.1,λk v hk=> .inl ((q v).1 (bL hk)).2.2⟩,λv hb E=>(q v).2 ⟨by have:=mM hB hb;omega,hb,E⟩,λv A F=>⟨λ_ y _ _ h=>by simp at h,λab=>?_⟩,o,l.1,λw C F=>?_⟩
 · obtain⟨u,N,O⟩:=P v A
   exact⟨u,N,O,by simp⟩
 · rw[V];exact l.2 w (by have:=mM hB C;omega) C
theorem xf {goal:List Bool}(W:goal.length=n) (p:Bool) (X:Par.NoDead (gS x) (In B)):∃A,i9 x B (b2i p) goal=some A/\A.length=n/\Par.IsAttr (gS x) (In B) p (In goal) (In A):=by
 have hn:=wf.n256
 obtain⟨Q0,ap,am,S,ae,af,ag,ah,ai⟩:=uI wf hB W (p:=p) X
 unfold i9
 rw[hB,gh (by omega) rfl,bG,gh (by omega) rfl,bG]
 rw[hB]at S
 rw[S,bG,ca]
 dsimp only
 obtain⟨o,w1,ay⟩:=cZ (f:=gP x B (b2i p)) (λj (s:List Int×Int×List Bool×List Int)=>s.2.1=(j:Int)/\j<=s.1.length/\Cert (rowS x) (ownL x.owner) (In B) p (In goal) s.1/\(∀v,In B v->In goal v->v∈s.1)/\Trap (rowS x) (ownL x.owner) (In B) p s.1 (λ_ y=>y∈s.1.take j) /\
  (s.2.2.1.length=n/\∀v:Int,0<=v->v<n->idx s.2.2.1 v=some (decide (v∈s.1)))/\(s.2.2.2.length=n/\∀w,In B w->w∉s.1->idx s.2.2.2 w=some (lf (rowS x w) (In B) (λy=>y∈s.1.take j):Int))) (λ_=>False)
  (λs=>∃Q,Cert (rowS x) (ownL x.owner) (In B) p (In goal) Q/\(∀v,In B v->In goal v->v∈Q)/\Trap (rowS x) (ownL x.owner) (In B) p Q (λ_ y=>y∈Q)/\(s.2.2.1.length=n/\∀v:Int,0<=v->v<n->idx s.2.2.1 v=some (decide (v∈Q)))) n (λj s ⟨a1,a2,c,D,l,E,F⟩=>by
  obtain⟨Q,i,out,left⟩:=s
  dsimp only at a1 a2 c D l E F
  subst a1
  have aA:=sY hB c
  unfold gP
  dsimp only
  by_cases N:(j:Int)<(Q.length:Int)
  · have hjl:j<Q.length:=by omega
    have b:Q[j]? =some Q[j]:=bI hjl
    have t:Q=Q.take j++Q[j]::Q.drop (j+1):=by rw[← List.drop_eq_getElem_cons hjl,List.take_append_drop]
    generalize Q[j]=u at b t
    obtain⟨au,av⟩:=mM hB (c.mem u (bL b))
    obtain⟨P,I⟩:=cT (xs:=x.prev) au (by rw[wf.lv];exact av)
    obtain⟨aq,aD,ar⟩:=wf.prev u P I
    simp only[N,decide_true,cond_true,bT,b,bG]
    have ab:Mid (rowS x) (ownL x.owner) (In B) p (In goal) (Q.take j) u [] Q:=by
     have:=Mid.first (T:=Q.take j) (u:=u) (R:=Q.drop (j+1)) (t ▸ c) (t ▸ l)
     rwa [← t]at this
    obtain⟨an,K,ax⟩:=cZ (f:=ep x B (b2i p) u) (λk (s:List Int×Int×List Bool×List Int)=>s.2.1=(k:Int)/\k<=P.length/\Mid (rowS x) (ownL x.owner) (In B) p (In goal) (Q.take j) u (P.take k) s.1 /\
     (s.2.2.1.length=n/\∀v:Int,0<=v->v<n->idx s.2.2.1 v=some (decide (v∈s.1)))/\(s.2.2.2.length=n/\∀w,In B w->w∉s.1->idx s.2.2.2 w=some (lf (rowS x w) (In B) (dn (Q.take j) u (P.take k) w):Int))/\(∀v∈Q,v∈s.1)) (λ_=>False)
     (λs=>Mid (rowS x) (ownL x.owner) (In B) p (In goal) (Q.take j) u P s.1/\(s.2.2.1.length=n/\∀v:Int,0<=v->v<n->idx s.2.2.1 v=some (decide (v∈s.1)))/\(s.2.2.2.length=n/\∀w,In B w->w∉s.1->idx s.2.2.2 w=some (lf (rowS x w) (In B) (dn (Q.take j) u P w):Int))/\(∀v∈Q,v∈s.1)) P.length (λk s ⟨L,U,d,G,m,H⟩=>by
     obtain⟨Q',ad,ao,al⟩:=s
     dsimp only at L U d G m H
     subst L
     by_cases hk:k<P.length
     · have a:P[k]? =some P[k]:=bI hk
       generalize P[k]=v at a
       have az:=sY hB d.cert
       obtain⟨Q2,aC,aB,c1,c2,g,q,V⟩:=tW wf hB d (uu aq a) I a (by omega) G m
       refine⟨_,c1,by omega,rfl,by omega,?_,g,?_,λv a=>V v (H v a)⟩
       · rw[qA a];exact c2
       · rw[qA a];exact q
     · unfold ep
       rw[I,bG]
       have:¬(k:Int)<(P.length:Int):=by omega
       dsimp only
       simp only[this,decide_false,cond_false]
       have e:P.take k=P:=List.take_of_length_le (by omega)
       rw[e]at d m
       exact⟨_,rfl,d,G,m,H⟩) (2 ^ 64) 0 (Q,0,out,left) (by omega) ⟨rfl,by omega,by simpa using ab,E,⟨F.1,λw C z=>by
        rw[F.2 w C z]
        congr 2
        exact jk λy _ _=>(oq (by simp)).symm⟩,λ_ h=>h⟩ (by omega)
    match an,ax with
    | .inr s,⟨c1,c2,g,q⟩=>
     obtain⟨Q',ad,ao,al⟩:=s
     dsimp only at c1 c2 g q
     have ac:IntKind.i64.wrap ((j:Int)+1)=((j+1:Nat):Int):=by rw[wr' (by omega) (by omega)];omega
     rw[K,bG,ca,ac]
     have O:Q'.take (j+1)=Q.take j++[u]:=by
      obtain⟨R,e⟩:=c1.hu
      have hjl:(Q.take j).length=j:=by rw[zJ];omega
      rw[e,show Q.take j++u::R=(Q.take j++[u])++R from by simp,List.take_append_of_le_length (by rw[zF,hjl];simp),List.take_of_length_le (by rw[zF,hjl];simp)]
     have aa:j+1<=Q'.length:=by
      obtain⟨R,e⟩:=c1.hu
      have hjl:(Q.take j).length=j:=by rw[zJ];omega
      rw[e,zF,hjl,zI];omega
     have M:∀v,In B v->u∈rowS x v->v∈P:=λv a b=>by
      rw[ar]
      unfold rowS at b
      cases hr:idx x.next v with
      | none=>rw[hr]at b;simp at b
      | some r=>
       cases hk:idx x.pick v with
       | none=>rw[hr,hk]at b;simp at b
       | some k=>rw[hr,hk]at b;exact⟨r,rfl,(List.mem_filter.1 b).1⟩
     have Z:j<n:=by omega
     refine⟨_,rfl,Z,rfl,aa,c1.cert,λv hb Y=>q v (D v hb Y),?_,c2,g.1,λw C z=>?_⟩
     · dsimp only
       rw[O];exact c1.last M
     · dsimp only
       dsimp only at z
       rw[g.2 w C z,O]
       congr 2
       exact jk λy hy _=>by
        unfold dn
        rw[zN,zG]
        constructor
        · rintro(h | ⟨h,_⟩)
          · exact .inl h
          · exact .inr h
        · rintro(h | h)
          · exact .inl h
          · exact .inr ⟨h,M w C (h ▸ hy)⟩
  · simp only[N,decide_false,cond_false]
    rw[List.take_of_length_le (by omega)]at l
    exact⟨_,rfl,Q,c,D,l,E⟩) (2 ^ 64) 0 (Q0,0,ap,am) (by omega) ⟨rfl,by omega,ae,af,by simpa using ag,ah,by simpa using ai⟩ (by omega)
 match o,ay with
 | .inr s,⟨Q,k1,aj,ak,J⟩=>
  rw[w1,bG,ca]
  refine⟨_,rfl,J.1,?_⟩
  have ha:=k1.attr (pri:=priL x.prio) aj ak
  have e:(λv=>v∈Q)=In s.2.2.1:=by
   funext v
   apply propext
   constructor
   · intro a
     obtain⟨aw,K⟩:=mM hB (k1.mem v a)
     unfold In;rw[J.2 v aw K];simp[a]
   · intro a
     have hr:=dq a
     unfold In at a
     rw[J.2 v hr.1 (by omega)]at a
     simpa using a
  rw[← e];exact ha
end
end Go.Proofs.YtleekpaohfpooaaGreat
set_option linter.unusedVariables false
set_option linter.unusedSimpArgs false
namespace Go.Proofs.YtleekpaohfpooaaGreat
open Go Go.Wk Go.Proofs
structure WfI (x:solver) (n:Nat):Prop where
 n256:n<=256
 lo:x.game.Arena.Owner.length=n
 lp:x.game.Prio.length=n
 ln:x.game.Arena.Next.length=n
 lv:x.preds.length=n
 ow:∀v o,idx x.game.Arena.Owner v=some o->o=0\/o=1
 row:∀v r,idx x.game.Arena.Next v=some r->r.length<=16/\r.Nodup/\∀u∈r,0<=u/\u<n
 prev:∀u P,idx x.preds u=some P->P.Nodup/\P.length<=100000/\∀v,v∈P↔∃r,idx x.game.Arena.Next v=some r/\u∈r
def fN (a:Arena) (v:Int):List Int:=(idx a.Next v).getD []
def gI (g:Parity):Par.Gm:=mkG (fN g.Arena) (ownL g.Arena.Owner) (priL g.Prio)
theorem hU {a:Arena}{v:Int}{r:List Int}(hr:idx a.Next v=some r):fN a v=r:=by unfold fN;rw[hr];rfl
section
variable {x:solver}{n:Nat}(wf:WfI x n){B:List Bool}(hB:B.length=n)
include wf
include hB
def LI (x:solver) (B:List Bool) (left:List Int) (w:Int) (d:Int->Prop):Prop:=idx left w=some (lf (fN x.game.Arena w) (In B) d:Int)\/(idx left w=some 0/\∀y∈fN x.game.Arena w,In B y->¬d y)
omit wf hB in
theorem LI.congr {left:List Int}{w:Int}{d a:Int->Prop}(h:LI x B left w d) (e:∀y∈fN x.game.Arena w,In B y->(d y↔a y)):LI x B left w a:=by
 rcases h with h | ⟨h1,c⟩
 · left;rw[h];congr 2;exact jk e
 · right;exact⟨h1,λy hy b hd=>c y hy b ((e y hy b).2 hd)⟩
end
end Go.Proofs.YtleekpaohfpooaaGreat
set_option linter.unusedVariables false
set_option linter.unusedSimpArgs false
namespace Go.Proofs.YtleekpaohfpooaaGreat
open Go Go.Wk Go.Proofs
def hasN (N:List (List Int)) (u:Int) (v:Nat):Bool:=match N[v]? with
 | some r=>decide (u∈r)
 | none=>false
def prevL (N:List (List Int)) (u:Int) (j:Nat):List Int:=((List.range j).filter (hasN N u)).map Int.ofNat
theorem ux (N:List (List Int)) (u:Int) (j:Nat):prevL N u (j+1)=prevL N u j++(if hasN N u j=true then[(j:Int)] else[]):=by
 unfold prevL
 rw[List.range_succ,List.filter_append,List.map_append]
 congr 1
 by_cases h:hasN N u j=true
 · rw[if_pos h,List.filter_cons,if_pos h];rfl
 · rw[if_neg h,List.filter_cons,if_neg h];rfl
theorem n9:∀{xs:List Nat},xs.Nodup->(xs.map Int.ofNat).Nodup
 | [],_=>by simp
 | x::xs,h=>by
  obtain⟨h1,a⟩:=List.nodup_cons.1 h
  rw[List.map_cons,List.nodup_cons]
  refine⟨λhm=>?_,n9 a⟩
  obtain⟨y,hy,e⟩:=List.mem_map.1 hm
  have:y=x:=Int.ofNat.inj e
  exact h1 (this ▸ hy)
theorem tF (N:List (List Int)) (u:Int) (j:Nat):(prevL N u j).Nodup:=by
 unfold prevL
 exact n9 (List.nodup_range.filter _)
theorem rz (N:List (List Int)) (u:Int) (j:Nat):(prevL N u j).length<=j:=by
 unfold prevL
 rw[zQ]
 exact Nat.le_trans (List.length_filter_le _ _) (by rw[List.length_range];omega)
theorem vV {N:List (List Int)}{u v:Int}{n:Nat}(hn:N.length=n):v∈prevL N u n↔∃r,idx N v=some r/\u∈r:=by
 unfold prevL
 rw[List.mem_map]
 constructor
 · rintro⟨w,b,rfl⟩
   obtain⟨h1,a⟩:=List.mem_filter.1 b
   unfold hasN at a
   rw[List.mem_range]at h1
   have e:N[w]? =some N[w]:=bI (by omega)
   rw[e]at a
   exact⟨N[w],by rw[show(Int.ofNat w)=(w:Int) from rfl,bT,e],by simpa using a⟩
 · rintro⟨r,hr,c⟩
   obtain⟨h0,h1⟩:=dq hr
   obtain⟨w,b⟩:=dy h0
   subst b
   rw[bT]at hr
   refine⟨w,List.mem_filter.2 ⟨List.mem_range.2 (by omega),?_⟩,rfl⟩
   unfold hasN
   rw[hr]
   simpa using c
def PrevM (N:List (List Int)) (n j:Nat) (row:List Int) (i:Nat) (t:List (List Int)):Prop:=t.length=n/\∀u:Int,0<=u->u<n->idx t u=some (prevL N u j++(if u∈row.take i then[(j:Int)] else[]))
def PrevT (N:List (List Int)) (n j:Nat) (t:List (List Int)):Prop:=t.length=n/\∀u:Int,0<=u->u<n->idx t u=some (prevL N u j)
theorem PrevT.zero {N:List (List Int)}{n:Nat}:PrevT N n 0 (bK n []):=⟨by simp,λu a b=>by
 rw[cY a,gs,if_pos (by omega)];rfl⟩
theorem PrevT.first {N:List (List Int)}{n j:Nat}{t:List (List Int)}(h:PrevT N n j t) (row:List Int):PrevM N n j row 0 t:=⟨h.1,λu a b=>by rw[h.2 u a b];simp⟩
theorem PrevM.last {N:List (List Int)}{n j:Nat}{row:List Int}{t:List (List Int)}(hr:N[j]? =some row) (h:PrevM N n j row row.length t):PrevT N n (j+1) t:=⟨h.1,λu b c=>by
 rw[h.2 u b c,ux,List.take_length]
 unfold hasN
 rw[hr]
 by_cases a:u∈row <;> simp[a]⟩
theorem PrevM.step {N:List (List Int)}{n j i:Nat}{row:List Int}{t:List (List Int)}{u:Int}(h:PrevM N n j row i t) (c:row[i]? =some u) (hn:row.Nodup) (d:0<=u) (f:u<n):
 ∃b,idx t u=some b/\b.length<=j+1/\∃t',setI t u (b++[(j:Int)])=some t'/\PrevM N n j row (i+1) t':=by
 refine⟨_,h.2 u d f,?_,?_⟩
 · have:=rz N u j
   rw[zF]
   split
   · simp;omega
   · simp;omega
 · have g:u∉row.take i:=by
    have a:=hn.sublist (List.take_sublist (i+1) row)
    rw[zO,c,List.nodup_append]at a
    exact λhm=>a.2.2 u hm u (by simp) rfl
   obtain⟨t',h1,a⟩:=eu (xs:=t) (i:=u) (prevL N u j++(if u∈row.take i then[(j:Int)] else[])++[(j:Int)]) d (by rw[h.1];exact f)
   refine⟨t',h1,by rw[a];exact h.1,λw l w1=>?_⟩
   have k:row.take (i+1)=row.take i++[u]:=by rw[zO,c];rfl
   rw[fa h1,k]
   by_cases e:w=u
   · subst e
     rw[if_pos rfl,if_neg g]
     simp
   · rw[if_neg e,h.2 w l w1]
     congr 2
     simp[e]
def gA (B:List Bool) (j:Nat):List Int:=((List.range j).filter (λv=>B[v]?.getD false)).map Int.ofNat
theorem oB (B:List Bool) (j:Nat):(gA B j).Nodup:=by
 unfold gA
 exact n9 (List.nodup_range.filter _)
theorem mq (B:List Bool) (j:Nat):(gA B j).length<=j:=by
 unfold gA
 rw[zQ]
 exact Nat.le_trans (List.length_filter_le _ _) (by rw[List.length_range];omega)
theorem el {B:List Bool}{v:Int}:v∈gA B B.length↔In B v:=by
 unfold gA In
 rw[List.mem_map]
 constructor
 · rintro⟨w,a,rfl⟩
   obtain⟨h1,b⟩:=List.mem_filter.1 a
   rw[List.mem_range]at h1
   rw[show(Int.ofNat w)=(w:Int) from rfl,bT]
   have e:B[w]? =some B[w]:=bI h1
   rw[e]at b ⊢
   simpa using b
 · intro h
   obtain⟨h0,h1⟩:=dq h
   obtain⟨w,a⟩:=dy h0
   subst a
   rw[bT]at h
   exact⟨w,List.mem_filter.2 ⟨List.mem_range.2 (by omega),by rw[h];rfl⟩,rfl⟩
theorem oW {ys:List Int}:∀{xs:List Int},xs.Nodup->(∀x∈xs,x∈ys)->xs.length<=ys.length:=by
 induction ys with
 | nil=>
  intro xs _ h
  cases xs with
  | nil=>simp
  | cons x xs=>exact absurd (h x (List.mem_cons_self ..)) (by simp)
 | cons y ys a=>
  intro xs hn h
  by_cases hm:y∈xs
  · have h1:=List.length_erase_of_mem hm
    have b:=a (xs:=xs.erase y) (hn.erase _) (λx hx=>by
     rw[hn.mem_erase_iff]at hx
     exact(List.mem_cons.1 (h x hx.2)).resolve_left hx.1)
    rw[zI]
    omega
  · have:=a (xs:=xs) hn (λx hx=>(List.mem_cons.1 (h x hx)).resolve_left λe=>hm (e ▸ hx))
    rw[zI]
    omega
def cnt (B:List Bool):Nat:=(gA B B.length).length
theorem mj (B:List Bool):cnt B<=B.length:=mq _ _
theorem wA {A B:List Bool}(h:∀v,In A v->In B v){w:Int}(b:In B w) (hn:¬In A w):cnt A<cnt B:=by
 have hs:∀v∈w::gA A A.length,v∈gA B B.length:=λv a=>by
  rcases List.mem_cons.1 a with rfl | a
  · exact el.2 b
  · exact el.2 (h v (el.1 a))
 have hd:(w::gA A A.length).Nodup:=List.nodup_cons.2 ⟨λhm=>hn (el.1 hm),oB _ _⟩
 have:=oW hd hs
 rw[zI]at this
 exact this
theorem wD {B:List Bool}(h:cnt B=0) (v:Int):¬In B v:=λa=>by
 have:=el.2 a
 unfold cnt at h
 rw[List.length_eq_zero_iff]at h
 rw[h]at this
 cases this
end Go.Proofs.YtleekpaohfpooaaGreat
set_option linter.unusedVariables false
set_option linter.unusedSimpArgs false
namespace Go.Proofs.YtleekpaohfpooaaGreat
open Go Go.Wk Go.Proofs
theorem fill {o α:Type}{f:Int->List α->Option (o⊕(List α⊕List α))}(a:Nat->α) (n:Nat){s0:List α}(h0:s0.length=n)
 (m:∀(j:Nat) s,j<n->s.length=n->f (j:Int) s=bD (idx s (j:Int)) λ_=>bD (setI s (j:Int) (a j)) λy=>some (.inr (.inr y))):
 ∃s,cntM f n 0 s0=some (.inr s)/\s.length=n/\∀j:Nat,j<n->idx s (j:Int)=some (a j):=by
 obtain⟨s,h1,c,d⟩:=cJ (f:=f) (λj (s:List α)=>s.length=n/\∀i:Nat,i<j->idx s (i:Int)=some (a i)) n (s:=s0) ⟨h0,λi b=>absurd b (Nat.not_lt_zero i)⟩ (λj s hj ⟨k,l⟩=>by
  obtain⟨p,g⟩:=cT (xs:=s) (i:=(j:Int)) (by omega) (by omega)
  obtain⟨q,hs,hl⟩:=eu (xs:=s) (i:=(j:Int)) (a j) (by omega) (by omega)
  rw[m j s hj k,g,bG,hs,bG]
  refine⟨_,rfl,by omega,λi b=>?_⟩
  rw[fa hs]
  by_cases e:(i:Int)=(j:Int)
  · have:i=j:=by omega
    subst this
    rw[if_pos rfl]
  · rw[if_neg e];exact l i (by omega))
 exact⟨s,h1,c,d⟩
theorem fillB {i:Type}{f:Int->List Bool->Option (i⊕(List Bool⊕List Bool))}(P:Int->Prop) [∀v,Decidable (P v)] (n:Nat){s0:List Bool}(h0:s0.length=n)
 (e:∀(j:Nat) s,j<n->s.length=n->f (j:Int) s=bD (idx s (j:Int)) λ_=>bD (setI s (j:Int) (decide (P (j:Int)))) λy=>some (.inr (.inr y))) (d:∀v,P v->0<=v/\v<n):
 ∃s,cntM f n 0 s0=some (.inr s)/\s.length=n/\∀v,In s v↔P v:=by
 obtain⟨s,h1,c,b⟩:=fill (f:=f) (λj=>decide (P (j:Int))) n h0 e
 refine⟨s,h1,c,λv=>?_⟩
 constructor
 · intro h
   obtain⟨a,g⟩:=dq h
   obtain⟨j,hj⟩:=dy a
   subst hj
   have:=b j (by omega)
   unfold In at h
   rw[h]at this
   exact of_decide_eq_true (Option.some.inj this).symm
 · intro h
   obtain⟨a,g⟩:=d v h
   obtain⟨j,hj⟩:=dy a
   subst hj
   unfold In
   rw[b j (by omega),decide_eq_true h]
instance (B:List Bool) (v:Int):Decidable (In B v):=by unfold In;exact inferInstance
theorem yA {B:List Bool}{v:Int}{b:Bool}(h:idx B v=some b):b=decide (In B v):=by
 have:In B v↔b=true:=by unfold In;rw[h];simp
 rw[zL];simp[this]
theorem eG {B:List Bool}{v:Int}(h0:0<=v) (h1:v<B.length):idx B v=some (decide (In B v)):=by
 obtain⟨b,hb⟩:=cT (xs:=B) h0 h1
 rw[← yA hb];exact hb
theorem ik {B:List Bool}{n:Nat}(hB:B.length=n){v:Int}(h:In B v):0<=v/\v<n:=by
 have:=dq h
 rw[hB]at this
 exact this
end Go.Proofs.YtleekpaohfpooaaGreat
set_option linter.unusedVariables false
set_option linter.unusedSimpArgs false
namespace Go.Proofs.YtleekpaohfpooaaGreat
open Go Go.Wk Go.Proofs
end Go.Proofs.YtleekpaohfpooaaGreat
set_option linter.unusedVariables false
set_option linter.unusedSimpArgs false
namespace Go.Proofs.YtleekpaohfpooaaGreat
open Go Go.Wk Go.Proofs
section
variable {x:solver}{n:Nat}(wf:WfI x n){B:List Bool}(hB:B.length=n)
include wf hB
end
end Go.Proofs.YtleekpaohfpooaaGreat
set_option linter.unusedVariables false
set_option linter.unusedSimpArgs false
namespace Go.Proofs.YtleekpaohfpooaaGreat.Par
open Classical
variable {G:Gm}{X Y:Int->Prop}{p:Bool}{S S' A A2 W W2 D:Int->Prop}
theorem IsAttr.congrS (h:IsAttr G X p S A) (e:∀v,X v->(S v↔S' v)):IsAttr G X p S' A:=by
 obtain⟨r,hr⟩:=h.rank
 refine⟨h.sub,λv hx hs=>h.base v hx ((e v hx).2 hs),⟨r,λv a=>?_⟩,h.mine,h.yours⟩
 rcases hr v a with k | k
 · exact .inl ((e v (h.sub v a)).1 k)
 · exact .inr k
structure Red (G:Gm) (X Y:Int->Prop) (p:Bool):Prop where
 sub:∀v,Y v->X v
 mine:∀D,Dom G Y p D->Dom G X p D
 yours:∀D,Dom G Y (!p) D->Dom G X (!p) (λv=>Mn X Y v\/D v)
theorem Red.refl:Red G X X p:=⟨λ_ h=>h,λ_ h=>h,λD h=>h.congr λv=>⟨.inr,λh=>h.resolve_left λh=>h.2 h.1⟩⟩
theorem Red.step (h:Red G X Y p) (c:IsAttr G Y p S A) (hW:Sol G (Mn Y A) p W) (a:IsAttr G Y (!p) (Mn (Mn Y A) W) A2):Red G X (Mn Y A2) p:=by
 have d:Dom G Y (!p) (Mn (Mn Y A) W):=Dom.lift c hW.yours
 refine⟨λv e=>h.sub v e.1,λD hD=>h.mine D ?_,λD hD=>(h.yours _ (Dom.grow d a hD)).congr λv=>?_⟩
 · have:=Dom.lift (p:= !p) (D:=D) a (by rwa [Bool.not_not])
   rwa [Bool.not_not]at this
 · constructor
   · rintro(⟨k1,b⟩ | k | k)
     · exact .inl ⟨k1,λk=>b k.1⟩
     · exact .inl ⟨h.sub v (a.sub v k),λk'=>k'.2 k⟩
     · exact .inr k
   · rintro(⟨k1,b⟩ | k)
     · by_cases hy:Y v
       · by_cases ha:A2 v
         · exact .inr (.inl ha)
         · exact absurd ⟨hy,ha⟩ b
       · exact .inl ⟨k1,hy⟩
     · exact .inr (.inr k)
theorem Red.sol (h:Red G X Y p) (a:Sol G Y p W):Sol G X p W:=⟨λv c=>h.sub v (a.sub v c),h.mine W a.mine,(h.yours _ a.yours).congr λv=>by
 constructor
 · rintro(⟨k1,b⟩ | k)
   · exact⟨k1,λk=>b (a.sub v k)⟩
   · exact⟨h.sub v k.1,k.2⟩
 · rintro⟨k1,b⟩
   by_cases hy:Y v
   · exact .inr ⟨hy,b⟩
   · exact .inl ⟨k1,hy⟩⟩
theorem Sol.all (h:Dom G Y p Y):Sol G Y p Y:=⟨λ_ h=>h,h,Dom.empty.congr λv=>⟨λh=>h.elim,λh=>h.2 h.1⟩⟩
theorem Sol.none (h:∀v,¬X v):Sol G X p W->∀v,¬W v:=λhs v a=>h v (hs.sub v a)
theorem Sol.void (h:∀v,¬X v):Sol G X p X:=Sol.all (Dom.empty.congr λv=>⟨λh=>h.elim,λhx=>h v hx⟩)
theorem Sol.top {d:Int}(c:NoDead G X) (hd:∀v,X v->G.pri v<=d) (hp:oddP d=p) (a:IsAttr G X p (λv=>G.pri v=d) A) (hW:Sol G (Mn X A) p W) (b:∀v,Mn X A v->W v):Sol G X p X:=
 Sol.all (Dom.top c hd hp a (hW.mine.congr λv=>⟨hW.sub v,b v⟩))
theorem Sol.asP {q:Bool}(h:Sol G X q W) (p:Bool):Sol G X p (λv=>X v/\(W v↔p=q)):=by
 by_cases e:p=q
 · subst e
   exact h.congr λv=>⟨λa=>⟨h.sub v a,⟨λ_=>rfl,λ_=>a⟩⟩,λa=>a.2.2 rfl⟩
 · have:p= !q:=by revert e;cases p <;> cases q <;> simp
   subst this
   exact h.flip.congr λv=>⟨λa=>⟨a.1,⟨λb=>absurd b a.2,λc=>absurd c e⟩⟩,λa=>⟨a.1,λb=>e (a.2.1 b)⟩⟩
end Go.Proofs.YtleekpaohfpooaaGreat.Par
set_option linter.unusedVariables false
set_option linter.unusedSimpArgs false
namespace Go.Proofs.YtleekpaohfpooaaGreat
open Go Go.Wk Go.Proofs
theorem tH {P:List Int}{v:Int}(h0:0<=v) (h1:v<P.length):idx P v=some (priL P v):=by
 obtain⟨q,a⟩:=cT (xs:=P) h0 h1
 unfold priL;rw[a];rfl
def PriOk (P:List Int):Prop:=∀v q,idx P v=some q->0<=q/\q<=40
theorem xp {d:Int}(h:0<=d):Int.tmod d 2=b2i (Par.oddP d):=by
 rw[Int.tmod_eq_emod_of_nonneg h]
 unfold Par.oddP b2i
 by_cases e:d % 2=1
 · simp[e]
 · simp[e];omega
theorem pM (p:Bool):(b2i p==0)= !p:=by cases p <;> rfl
theorem ww (p:Bool):(b2i p==1)=p:=by cases p <;> rfl
theorem uU (p q:Bool):(b2i p==b2i q)=(p==q):=by cases p <;> cases q <;> rfl
theorem qY (p:Bool):IntKind.i64.wrap (1-b2i p)=b2i (!p):=by cases p <;> decide
theorem rm {A B:List Bool}{n:Nat}(a:A.length=n) (hB:B.length=n) (hn:n<=256):∃R,me A B=some R/\R.length=n/\∀v,In R v↔In A v/\¬In B v:=by
 unfold me
 rw[a,gh (by omega) rfl,bG]
 obtain⟨R,h1,b,c⟩:=fillB (f:=ke A B) (λv=>In A v/\¬In B v) n (s0:=bK n false) (by simp) (λj s hj hs=>by
  unfold ke
  rw[eG (B:=A) (by omega) (by omega),bG,eG (B:=B) (by omega) (by omega),bG,andE,bG]
  congr 1
  funext _
  congr 2
  rw[zL];simp) (λv d=>ik a d.1)
 rw[h1,bG,ca]
 exact⟨R,rfl,b,c⟩
section
variable {x:l7Game}{n:Nat}(wf:WfS x n) (hp:PriOk x.prio)
include wf hp
theorem yx {B:List Bool}(hB:B.length=n):∃d:Int,oO x B=some d/\d<=40/\(∀v,In B v->priL x.prio v<=d)/\((d= -1/\∀v,¬In B v)\/(0<=d/\∃v,In B v/\priL x.prio v=d)):=by
 have u:=wf.lp
 obtain⟨s,h1,q,r,t⟩:=cJ (f:=lb x B) (λj (s:Int)=>s<=40/\(∀v,v<(j:Int)->In B v->priL x.prio v<=s)/\((s= -1/\∀v,v<(j:Int)->¬In B v)\/(0<=s/\∃v,In B v/\priL x.prio v=s))) B.length (s:=(-1:Int)) ⟨by omega,λv a b=>by
  have:=ik hB b;omega,.inl ⟨rfl,λv a b=>by have:=ik hB b;omega⟩⟩ (λj s hj ⟨l,g,m⟩=>by
  rw[hB]at hj
  unfold lb
  have k:=tH (P:=x.prio) (v:=(j:Int)) (by omega) (by omega)
  obtain⟨o,p⟩:=hp _ _ k
  rw[eG (B:=B) (by omega) (by omega),bG,k]
  by_cases b:In B (j:Int)
  · simp only[b,decide_true,cond_true,bG]
    unfold kp
    by_cases i:priL x.prio (j:Int)<s
    · simp only[i,decide_true,cond_true,bG]
      refine⟨_,rfl,l,λv a c=>?_,?_⟩
      · by_cases e:v=(j:Int)
        · subst e;omega
        · exact g v (by omega) c
      · rcases m with ⟨e,_⟩ | h
        · omega
        · exact .inr h
    · simp only[i,decide_false,cond_false,bG]
      refine⟨_,rfl,p,λv a c=>?_,.inr ⟨o,(j:Int),b,rfl⟩⟩
      by_cases e:v=(j:Int)
      · subst e;omega
      · have:=g v (by omega) c;omega
  · simp only[b,decide_false,cond_false,bG]
    refine⟨_,rfl,l,λv a c=>?_,?_⟩
    · by_cases e:v=(j:Int)
      · subst e;exact absurd c b
      · exact g v (by omega) c
    · rcases m with ⟨e,h⟩ | h
      · refine .inl ⟨e,λv a c=>?_⟩
        by_cases e:v=(j:Int)
        · subst e;exact b c
        · exact h v (by omega) c
      · exact .inr h)
 unfold oO
 rw[h1,bG,ca]
 refine⟨s,rfl,q,λv a=>r v (by have:=ik hB a;omega) a,?_⟩
 rcases t with ⟨e,h⟩ | h
 · exact .inl ⟨e,λv a=>h v (by have:=ik hB a;omega) a⟩
 · exact .inr h
omit wf hp in
theorem zi {c a:List Bool}{d:Int}{p:Bool}(hd:Int.tmod d 2=b2i p) (hr:c.length=n) (hl:a.length=n):∃L b,cntM (jO d c a) n 0 (false,bK n false)=some (.inr (b,L))/\L.length=n/\(∀v,In L v↔In c v/\(In a v↔p=true))/\(b=true↔∃v,In L v):=by
 let l:Nat->Bool:=λj=>decide (In c (j:Int)/\(In a (j:Int)↔p=true))
 obtain⟨s,h1,o,q,t⟩:=cJ (f:=jO d c a) (λj (s:Bool×List Bool)=>s.2.length=n/\(∀i:Nat,i<j->idx s.2 (i:Int)=some (l i))/\(s.1=true↔∃i:Nat,i<j/\l i=true)) n (s:=(false,bK n false)) ⟨by simp,λi g=>absurd g (Nat.not_lt_zero i),by simp⟩ (λj s hj ⟨A,u,w⟩=>by
  obtain⟨b,L⟩:=s
  dsimp only at A u w
  obtain⟨D,z⟩:=cT (xs:=L) (i:=(j:Int)) (by omega) (by omega)
  obtain⟨L',hs,C⟩:=eu (xs:=L) (i:=(j:Int)) (l j) (by omega) (by omega)
  have m:(decide (In c (j:Int))&&(decide (In a (j:Int)) != !p))=l j:=by
   show _=decide (In c (j:Int)/\(In a (j:Int)↔p=true))
   rw[zL]
   cases p <;> simp
  have y:idx L' (j:Int)=some (l j):=by rw[fa hs,if_pos rfl]
  unfold jO
  dsimp only
  rw[eG (B:=c) (by omega) (by omega),bG,eG (B:=a) (by omega) (by omega),bG,andE,bG,hd,pM,m,z,bG,hs,bG,y,bG,orE,bG]
  refine⟨_,rfl,by dsimp only;omega,λi g=>?_,?_⟩
  · dsimp only
    rw[fa hs]
    by_cases e:(i:Int)=(j:Int)
    · have:i=j:=by omega
      subst this
      rw[if_pos rfl]
    · rw[if_neg e];exact u i (by omega)
  · dsimp only
    rw[Bool.or_eq_true,w]
    constructor
    · rintro(⟨i,g,h⟩ | h)
      · exact⟨i,by omega,h⟩
      · exact⟨j,by omega,h⟩
    · rintro⟨i,g,h⟩
      by_cases e:i=j
      · subst e;exact .inr h
      · exact .inl ⟨i,by omega,h⟩)
 obtain⟨b,L⟩:=s
 dsimp only at o q t
 have r:∀v,In L v↔In c v/\(In a v↔p=true):=λv=>by
  constructor
  · intro h
    obtain⟨k,x⟩:=dq h
    obtain⟨j,hj⟩:=dy k
    subst hj
    have:=q j (by omega)
    unfold In at h
    rw[h]at this
    exact of_decide_eq_true (Option.some.inj this).symm
  · intro h
    obtain⟨k,x⟩:=ik hr h.1
    obtain⟨j,hj⟩:=dy k
    subst hj
    unfold In
    rw[q j (by omega)]
    congr 1
    exact decide_eq_true h
 refine⟨L,b,h1,o,r,?_⟩
 rw[t]
 constructor
 · rintro⟨i,g,h⟩
   exact⟨(i:Int),(r _).2 (of_decide_eq_true h)⟩
 · rintro⟨v,m⟩
   obtain⟨k,x⟩:=ik o m
   obtain⟨j,hj⟩:=dy k
   subst hj
   exact⟨j,by omega,decide_eq_true ((r _).1 m)⟩
theorem yy:∀(k:Nat) (B:List Bool) (f:Nat),B.length=n->Par.NoDead (gS x) (In B)->cnt B<=k->k<f->∃R,lF f x B=some R/\R.length=n/\Par.Sol (gS x) (In B) false (In R):=by
 have hn:=wf.n256
 intro k
 induction k with
 | zero=>
  intro B f hB l hk aq
  obtain⟨f,rfl⟩:∃g,f=g+1:=⟨f-1,by omega⟩
  show ∃R,jP (lF f) x B=some R/\_
  unfold jP
  obtain⟨d,E,aB,ae,O⟩:=yx wf hp hB
  have i:=wD (B:=B) (by omega)
  rcases O with ⟨e,_⟩ | ⟨_,v,a,_⟩
  · subst e
    rw[E,bG,hB,gh (by omega) rfl,bG]
    refine⟨_,rfl,by simp,(Par.Sol.void i).congr λv=>⟨λh=>absurd h (i v),λh=>?_⟩⟩
    have hr:=dq h
    unfold In at h
    rw[cY hr.1,gs]at h
    split at h <;> simp at h
  · exact absurd a (i v)
 | succ k Z=>
  intro B f hB l hk aq
  obtain⟨f,rfl⟩:∃g,f=g+1:=⟨f-1,by omega⟩
  show ∃R,jP (lF f) x B=some R/\_
  unfold jP
  obtain⟨d,E,aB,ae,O⟩:=yx wf hp hB
  rcases O with ⟨e,i⟩ | ⟨ap,w,I,au⟩
  · subst e
    rw[E,bG,hB,gh (by omega) rfl,bG]
    refine⟨_,rfl,by simp,(Par.Sol.void i).congr λv=>⟨λh=>absurd h (i v),λh=>?_⟩⟩
    have hr:=dq h
    unfold In at h
    rw[cY hr.1,gs]at h
    split at h <;> simp at h
  · have ar:decide (d<0)=false:=by simp;omega
    have o:=xp ap
    generalize hpe:Par.oddP d=p at o
    rw[E,bG,hB,gh (by omega) rfl,bG]
    simp only[ar,cond_false,bG]
    obtain⟨goal,aj,ak,V⟩:=fillB (f:=lc x B d) (λv=>In B v/\priL x.prio v=d) n (s0:=bK n false) (by simp) (λj s hj hs=>by
     unfold lc
     rw[eG (B:=B) (by omega) (by omega),bG,tH (P:=x.prio) (by omega) (by rw[wf.lp];omega),bG,andE,bG]
     congr 1
     funext _
     congr 2
     rw[zL];simp) (λv a=>ik hB a.1)
    rw[aj,bG,ca,o]
    obtain⟨A,a1,a2,Q⟩:=xf wf hB ak p l
    have F:Par.IsAttr (gS x) (In B) p (λv=>(gS x).pri v=d) (In A):=Q.congrS λv a=>by rw[V];exact⟨λh=>h.2,λh=>⟨a,h⟩⟩
    obtain⟨c,aA,ad,D⟩:=rm hB a2 hn
    have H:∀v,Par.Mn (In B) (In A) v↔In c v:=λv=>(D v).symm
    have z:Par.Mn (In B) (In A)=In c:=funext λv=>propext (H v)
    have am:Par.NoDead (gS x) (In c):=z ▸ l.less F
    have aC:cnt c<cnt B:=wA (λv a=>((D v).1 a).1) I λh=>((D w).1 h).2 (Q.base w I ((V w).2 ⟨I,au⟩))
    obtain⟨J,av,aw,ax⟩:=Z c f ad am (by omega) (by omega)
    obtain⟨L,b,ay,az,ab,ac⟩:=zi o ad aw
    simp only[a1,bG,aA,av,ay,ca]
    have hW:=ax.asP p
    have W:∀v,In L v↔Par.Mn (In c) (λv=>In c v/\(In J v↔p=false)) v:=λv=>by
     rw[ab]
     unfold Par.Mn
     by_cases h1:In c v <;> by_cases C:In J v <;> cases p <;> simp[h1,C]
    have ai:Par.Mn (In c) (λv=>In c v/\(In J v↔p=false))=In L:=funext λv=>propext (W v).symm
    cases hb:b with
    | false=>
     simp only[Bool.not_false,cond_true]
     have i:∀v,¬In L v:=λv a=>by
      have:=ac.2 ⟨v,a⟩
      rw[hb]at this;cases this
     obtain⟨R,K,M,N⟩:=fillB (f:=lg B d) (λv=>In B v/\p=false) n (s0:=bK n false) (by simp) (λj s hj hs=>by
      unfold lg
      rw[eG (B:=B) (by omega) (by omega),bG,andE,bG,o,pM]
      congr 1
      funext _
      congr 2
      rw[zL];simp) (λv a=>ik hB a.1)
     rw[K,bG,ca]
     refine⟨R,rfl,M,?_⟩
     have G:Par.Sol (gS x) (In B) p (In B):=Par.Sol.top l ae hpe F (z.symm ▸ hW) λv a=>by
      have a:=(H v).1 a
      apply Classical.byContradiction
      intro hc
      exact i v ((W v).2 ⟨a,λh=>hc ⟨(H v).2 a,h.2⟩⟩)
     refine(G.asP false).congr λv=>?_
     rw[N]
     constructor
     · rintro⟨k1,q⟩;exact⟨k1,(q.1 k1).symm⟩
     · rintro⟨k1,q⟩;exact⟨k1,λ_=>q.symm,λ_=>k1⟩
    | true=>
     simp only[sh,cond_false]
     obtain⟨t,X⟩:=ac.1 hb
     obtain⟨A2,af,S,u⟩:=xf wf hB az (!p) l
     obtain⟨r,c1,c2,y⟩:=rm hB S hn
     have U:Par.Mn (In B) (In A2)=In r:=funext λv=>propext (y v).symm
     have an:Par.NoDead (gS x) (In r):=U ▸ l.less u
     have Y:In B t:=((D t).1 ((ab t).1 X).1).1
     have aD:cnt r<cnt B:=wA (λv a=>((y v).1 a).1) Y λh=>((y t).1 h).2 (u.base t Y X)
     obtain⟨m,ag,ah,T⟩:=Z r f c2 an (by omega) (by omega)
     rw[qY]
     simp only[af,bG,c1,ag]
     obtain⟨R,K,M,N⟩:=fillB (f:=lh d A2 m) (λv=>In m v\/(In A2 v/\p=true)) n (s0:=bK n false) (by simp) (λj s hj hs=>by
      unfold lh
      rw[eG (B:=m) (by omega) (by omega),bG,eG (B:=A2) (by omega) (by omega),bG,andE,bG,orE,bG,o,ww]
      congr 1
      funext _
      congr 2
      rw[zL];simp) (λv a=>by
       rcases a with h | h
       · exact ik ah h
       · exact ik S h.1)
     rw[K,bG,ca]
     refine⟨R,rfl,M,?_⟩
     have ao:Par.Red (gS x) (In B) (Par.Mn (In B) (In A2)) p:=Par.Red.refl.step F (z.symm ▸ hW) (by rw[z,ai];exact u)
     have G:=ao.sol (U.symm ▸ T.asP p)
     refine(G.asP false).congr λv=>?_
     rw[N]
     have k1:In m v->In r v:=T.sub v
     have q:In A2 v->In B v:=u.sub v
     have aa:=y v
     by_cases h1:In B v <;> by_cases C:In A2 v <;> by_cases al:In m v <;> cases aE:p <;> simp[h1,C]at k1 q aa <;> simp[h1,C,al,aa] <;> simp_all
end
end Go.Proofs.YtleekpaohfpooaaGreat
set_option linter.unusedVariables false
set_option linter.unusedSimpArgs false
namespace Go.Proofs.YtleekpaohfpooaaGreat
open Go Go.Wk Go.Proofs
section
variable {x:solver}{n:Nat}(wf:WfI x n) (hp:PriOk x.game.Prio)
include wf hp
end
end Go.Proofs.YtleekpaohfpooaaGreat
set_option linter.unusedVariables false
set_option linter.unusedSimpArgs false
namespace Go.Proofs.YtleekpaohfpooaaGreat
open Go Go.Wk Go.Proofs
structure GOk (g:Parity) (n:Nat):Prop where
 n256:n<=256
 lo:g.Arena.Owner.length=n
 lp:g.Prio.length=n
 ln:g.Arena.Next.length=n
 ow:∀v o,idx g.Arena.Owner v=some o->o=0\/o=1
 row:∀v r,idx g.Arena.Next v=some r->r.length<=16/\r.Nodup/\∀u∈r,0<=u/\u<n
 pri:PriOk g.Prio
theorem vn {α:Type}{xs:List α}{v:Int}{x:α}(h:idx xs v=some x):x∈xs:=by
 obtain⟨h0,_⟩:=dq h
 rw[cY h0]at h
 exact bL h
theorem GOk.of {g:Parity}(h:dA g=true):GOk g g.Prio.length:=by
 obtain⟨h1,s,t,w,a⟩:=fS h
 obtain⟨b,c⟩:=qm h
 refine⟨by omega,by omega,rfl,by omega,λv o e=>?_,λv r hr=>?_,λv q f=>?_⟩
 · have:=dv.1 (b o (vn e))
   omega
 · obtain⟨p,_⟩:=dq hr
   obtain⟨i,d⟩:=dy p
   subst d
   rw[bT]at hr
   obtain⟨x,k,l⟩:=a i r hr
   obtain⟨m,n⟩:=ij.1 l
   exact⟨k,iN n,λu j=>by have:=m u j;omega⟩
 · have:=dv.1 (c q (vn f))
   omega
section
variable {g:Parity}{n:Nat}(h:GOk g n)
include h
theorem vz:∃P,pe g=some ⟨g.Arena.Owner,g.Prio,g.Arena.Next,P,bK n (-1)⟩/\PrevT g.Arena.Next n n P:=by
 have hn:=h.n256
 unfold pe
 rw[h.lp,gh (by omega) rfl,bG,gh (by omega) rfl,bG]
 obtain⟨s,h1,r,G,v⟩:=cJ (f:=mf g) (λj (s:List (List Int)×List Int)=>PrevT g.Arena.Next n j s.1/\s.2.length=n/\∀i:Nat,i<j->idx s.2 (i:Int)=some (-1)) n (s:=(bK n [],bK n 0)) ⟨PrevT.zero,by simp,λi a=>absurd a (Nat.not_lt_zero i)⟩ (λj s hj ⟨hs,B,q⟩=>by
  obtain⟨s,k⟩:=s
  dsimp only at hs B q
  have hr:g.Arena.Next[j]? =some (g.Arena.Next[j]'(by rw[h.ln];exact hj)):=bI (by rw[h.ln];exact hj)
  generalize g.Arena.Next[j]'(by rw[h.ln];exact hj)=row at hr
  obtain⟨K,C,D⟩:=h.row (j:Int) row (by rw[bT];exact hr)
  obtain⟨p,w⟩:=cT (xs:=k) (i:=(j:Int)) (by omega) (by omega)
  obtain⟨k',hk,H⟩:=eu (xs:=k) (i:=(j:Int)) (-1) (by omega) (by omega)
  unfold mf
  dsimp only
  rw[w,bG,hk,bG]
  obtain⟨o,w1,l⟩:=cZ (f:=mg g (j:Int)) (λi (t:Int×List (List Int))=>t.1=(i:Int)/\i<=row.length/\PrevM g.Arena.Next n j row i t.2) (λ_=>False) (λt=>PrevM g.Arena.Next n j row row.length t.2) row.length (λi t ⟨a1,a2,c⟩=>by
   obtain⟨I,t⟩:=t
   dsimp only at a1 c
   subst a1
   unfold mg
   dsimp only
   rw[bT,hr,bG]
   by_cases m:i<row.length
   · have d:(i:Int)<(row.length:Int):=by omega
     have b:row[i]? =some row[i]:=bI m
     generalize row[i]=u at b
     obtain⟨E,F⟩:=D u (bL b)
     obtain⟨p,y,J,t',z,A⟩:=c.step b C E F
     have x:IntKind.i64.wrap ((i:Int)+1)=((i+1:Nat):Int):=by rw[wr' (by omega) (by omega)];omega
     simp only[d,decide_true,cond_true,bG,bT,b,y,app1 (show p.length<=10000000000 by omega) (show Nat.ble 8 1024=true from rfl),z,x]
     exact⟨_,rfl,m,rfl,by omega,A⟩
   · have d:¬(i:Int)<(row.length:Int):=by omega
     simp only[d,decide_false,cond_false]
     have e:i=row.length:=by omega
     subst e
     exact⟨_,rfl,c⟩) (2 ^ 64) 0 (0,s) (by omega) ⟨rfl,by omega,hs.first row⟩ (by omega)
  match o,l with
  | .inr t,l=>
   rw[w1,bG,ca]
   refine⟨_,rfl,l.last hr,by dsimp only;omega,λi a=>?_⟩
   dsimp only
   rw[fa hk]
   by_cases e:(i:Int)=(j:Int)
   · rw[if_pos e]
   · rw[if_neg e];exact q i (by omega))
 rw[h1,bG,ca]
 have e:s.2=bK n (-1):=by
  apply List.ext_getElem?
  intro i
  rw[gs]
  by_cases a:i<n
  · rw[if_pos a,← bT];exact v i a
  · rw[if_neg a];exact zM (by omega)
 refine⟨s.1,?_,r⟩
 rw[e]
theorem GOk.wfS {P:List (List Int)}(b:PrevT g.Arena.Next n n P){k:List Int}(hk:k.length=n):WfS ⟨g.Arena.Owner,g.Prio,g.Arena.Next,P,k⟩ n:=by
 refine⟨h.n256,h.lo,h.lp,h.ln,hk,b.1,h.ow,h.row,λu Q a=>?_⟩
 obtain⟨d,c⟩:=dq a
 have c:u<(P.length:Int):=c
 have a:idx P u=some Q:=a
 rw[b.2 u d (by have:=b.1;omega)]at a
 cases a
 have:=rz g.Arena.Next u n
 have:=h.n256
 exact⟨tF _ _ _,by omega,λv=>vV h.ln⟩
theorem xG (P:List (List Int)):gS ⟨g.Arena.Owner,g.Prio,g.Arena.Next,P,bK n (-1)⟩=gI g:=by
 unfold gS gI
 congr 1
 funext v
 unfold rowS fN
 dsimp only
 cases hr:idx g.Arena.Next v with
 | none=>rfl
 | some r=>
  obtain⟨b,c⟩:=dq hr
  have:idx (bK n (-1:Int)) v=some (-1):=by
   rw[cY b,gs,if_pos (by have:=h.ln;omega)]
  rw[this]
  show r.filter (okE (-1))=r
  rw[List.filter_eq_self]
  intro a _
  rfl
theorem yB:oN (g.Prio.length:Int)=some (bK n true):=by
 have hn:=h.n256
 unfold oN
 have hr:rng (n:Int)=some ()\/True:= .inr trivial
 rw[h.lp,gh (by omega) rfl,bG,show Int.toNat ((n:Int)-0)=n from by omega]
 obtain⟨s,h1,c,b⟩:=fill (f:=kZ) (λ_=>true) n (s0:=bK n false) (by simp) (λj s hj hs=>by
  unfold kZ
  rfl)
 rw[h1]
 have e:s=bK n true:=by
  apply List.ext_getElem?
  intro i
  rw[gs]
  by_cases a:i<n
  · rw[if_pos a,← bT];exact b i a
  · rw[if_neg a];exact zM (by omega)
 subst e
 have:rng (n:Int)=some ():=by
  unfold rng
  first
   | rfl
   | rw[if_pos (by omega)]
 rw[this];rfl
omit h in
theorem yz (v:Int):In (bK n true) v↔0<=v/\v<n:=by
 constructor
 · intro h
   have:=dq h
   simpa using this
 · rintro⟨h0,h1⟩
   unfold In
   rw[cY h0,gs,if_pos (by omega)]
end
end Go.Proofs.YtleekpaohfpooaaGreat
set_option linter.unusedVariables false
set_option linter.unusedSimpArgs false
namespace Go.Proofs.YtleekpaohfpooaaGreat
open Go Go.Wk Go.Proofs
open Classical
noncomputable def wonL (n:Nat) (W:Int->Prop):List Int:=(List.range n).map λ(v:Nat)=>b2i (decide (¬W (v:Int)))
theorem qD (n:Nat) (W:Int->Prop):(wonL n W).length=n:=by unfold wonL;rw[zQ,List.length_range]
theorem uc {n:Nat}{W:Int->Prop}{v:Nat}(h:v<n):(wonL n W)[v]? =some (b2i (decide (¬W (v:Int)))):=by
 unfold wonL
 rw[List.getElem?_map,List.getElem?_range h];rfl
theorem yr {n:Nat}{W:Int->Prop}{l:List Int}(hl:l.length=n) (h:∀v:Nat,v<n->l[v]? =some (b2i (decide (¬W (v:Int))))):l=wonL n W:=by
 apply List.ext_getElem?
 intro i
 by_cases a:i<n
 · rw[h i a,uc a]
 · rw[zM (by omega),zM (by rw[qD];omega)]
theorem qi {g:Parity}{n:Nat}(h:GOk g n) (hr:∀v r,idx g.Arena.Next v=some r->r≠[]):Par.NoDead (gI g) (λv=>0<=v/\v<n):=λv ⟨b,c⟩=>by
 obtain⟨r,a⟩:=cT (xs:=g.Arena.Next) b (by have:=h.ln;omega)
 cases r with
 | nil=>exact absurd rfl (hr v [] a)
 | cons u us=>
  refine⟨u,?_,(h.row v _ a).2.2 u (List.mem_cons_self ..)⟩
  show u∈fN g.Arena v
  rw[hU a];exact List.mem_cons_self ..
theorem rE {g:Parity}(hp:dA g=true):∀v r,idx g.Arena.Next v=some r->r≠[]:=λv r hr e=>by
 obtain⟨h1,d,f,j,a⟩:=fS hp
 obtain⟨c,_⟩:=dq hr
 obtain⟨i,b⟩:=dy c
 subst b
 rw[bT]at hr
 have:=(a i r hr).1
 rw[e]at this
 simp at this
end Go.Proofs.YtleekpaohfpooaaGreat
set_option linter.unusedVariables false
set_option linter.unusedSimpArgs false
namespace Go.Proofs.YtleekpaohfpooaaGreat.Par
open Classical
variable {G H:Gm}{X Y C T W W' D:Int->Prop}{p:Bool}{w w':Int->Bool}{k k':Int->Int}
theorem Dom.self (h:Dom G X p D):Dom G D p D:=by
 obtain⟨d,a1,a2,e,a⟩:=h
 exact⟨d,λv c=>c,a2,λv u _ _ _ b=>b,a⟩
theorem Dom.congrG (h:Dom G X p D) (g:∀v,D v->H.own v=G.own v) (hp:∀v,D v->H.pri v=G.pri v) (f:∀v u,D v->(H.E v u↔G.E v u)):Dom H X p D:=by
 obtain⟨i,a1,a2,j,k⟩:=h
 refine⟨i,a1,λv b a=>?_,λv u b a q hx=>?_,λπ hπ=>?_⟩
 · rw[g v b]at a
   have:=a2 v b a
   exact⟨(f v _ b).2 this.1,this.2⟩
 · rw[g v b]at a
   exact j v u b a ((f v u b).1 q) hx
 · have r:Play G p D i π:=λn=>by
    obtain⟨c,l,m⟩:=hπ n
    exact⟨c,(f _ _ c).1 l,λa=>m (by rw[g _ c];exact a)⟩
   obtain⟨d,c1,c2,N,o⟩:=k π r
   have e:∀n,H.pri (π n)=G.pri (π n):=λn=>hp _ (hπ n).1
   exact⟨d,c1,λM=>by obtain⟨n,k1,s⟩:=c2 M;exact⟨n,k1,by rw[e];exact s⟩,N,λn hn=>by rw[e];exact o n hn⟩
theorem Sol.congrG (h:Sol G X p W) (c:∀v,X v->H.own v=G.own v) (hp:∀v,X v->H.pri v=G.pri v) (b:∀v u,X v->(H.E v u↔G.E v u)):Sol H X p W:=
 ⟨h.sub,h.mine.congrG (λv a=>c v (h.sub v a)) (λv a=>hp v (h.sub v a)) (λv u a=>b v u (h.sub v a)),
  h.yours.congrG (λv a=>c v a.1) (λv a=>hp v a.1) (λv u a=>b v u a.1)⟩
theorem hold_iff {R:Int->Prop}{q:Bool}(hs:Sol G Y false R):(∀x,Y x->(R x↔q=false))↔Dom G Y q Y:=by
 constructor
 · intro h
   cases q with
   | false=>exact hs.mine.congr λv=>⟨hs.sub v,λa=>(h v a).2 rfl⟩
   | true=>exact hs.yours.congr λv=>⟨λa=>a.1,λa=>⟨a,λhr=>absurd ((h v a).1 hr) (by decide)⟩⟩
 · intro h x hx
   have:=hs.uniq ((Sol.all h).asP false) x
   rw[this]
   exact⟨λh=>(h.2.1 hx).symm,λe=>⟨hx,λ_=>e.symm,λ_=>hx⟩⟩
def pickG (G:Gm) (k:Int->Int):Gm:=⟨G.own,G.pri,λv u=>G.E v u/\(k v<0\/k v=u)⟩
def Rg (X:Int->Prop) (w:Int->Bool) (q:Bool):Int->Prop:=λv=>X v/\w v=q
def updF (k:Int->Int) (v u:Int):Int->Int:=λx=>if x=v then u else k x
structure PInv (G:Gm) (X:Int->Prop) (w:Int->Bool) (k:Int->Int):Prop where
 pick:∀v,0<=k v->X v/\G.own v=w v/\G.E v (k v)/\X (k v)/\w (k v)=w v
 dom:∀q,Dom (pickG G k) (Rg X w q) q (Rg X w q)
 yours:∀v u,X v->¬G.own v=w v->G.E v u->X u->w u=w v
theorem Sol.rg (h:Sol G X false W) (b:∀v,X v->(w v=false↔W v)) (q:Bool):Dom G X q (Rg X w q):=by
 cases q with
 | false=>exact h.mine.congr λv=>⟨λa=>⟨h.sub v a,(b v (h.sub v a)).2 a⟩,λa=>(b v a.1).1 a.2⟩
 | true=>exact h.yours.congr λv=>⟨λa=>⟨a.1,by
  cases e:w v with
  | true=>rfl
  | false=>exact absurd ((b v a.1).1 e) a.2⟩,λa=>⟨a.1,λc=>by
  have:=(b v a.1).2 c
  rw[a.2]at this
  cases this⟩⟩
theorem PInv.start (h:Sol G X false W) (b:∀v,X v->(w v=false↔W v)) (hk:∀v,k v<0):PInv G X w k:=by
 refine⟨λv a=>absurd (hk v) (by omega),λq=>((h.rg b q).self).congrG (λ_ _=>rfl) (λ_ _=>rfl) λv u _=>⟨λh=>h.1,λh=>⟨h,.inl (hk v)⟩⟩,λv u a e d f=>?_⟩
 obtain⟨i,a1,a2,c,g⟩:=h.rg b (w v)
 exact(c v u ⟨a,rfl⟩ e d f).2
theorem PInv.ex (hI:PInv G X w k){v:Int}(p:X v) (o:G.own v=w v) (hk:k v<0):∃u,G.E v u/\X u/\w u=w v/\Dom (pickG G (updF k v u)) (Rg X w (w v)) (w v) (Rg X w (w v)):=by
 obtain⟨f,a1,a2,q,g⟩:=hI.dom (w v)
 obtain⟨⟨j,_⟩,l,m⟩:=a2 v ⟨p,rfl⟩ o
 refine⟨f v,j,l,m,f,a1,λx hx d=>?_,λx y hx d r hy=>hy,λπ hπ=>g π λn=>?_⟩
 · obtain⟨⟨b,c⟩,a⟩:=a2 x hx d
   refine⟨⟨b,?_⟩,a⟩
   unfold updF
   by_cases e:x=v
   · rw[if_pos e,e];exact .inr rfl
   · rw[if_neg e];exact c
 · obtain⟨b,⟨c,a⟩,i⟩:=hπ n
   refine⟨b,⟨c,?_⟩,i⟩
   unfold updF at a
   by_cases e:π n=v
   · rw[e];exact .inl hk
   · rwa [if_neg e]at a
theorem PInv.step (hI:PInv G X w k){v u:Int}(f:X v) (d:G.own v=w v) (h1:G.E v u) (b:X u) (c:w u=w v) (hd:Dom (pickG G (updF k v u)) (Rg X w (w v)) (w v) (Rg X w (w v))):PInv G X w (updF k v u):=by
 refine⟨λx hx=>?_,λq=>?_,hI.yours⟩
 · by_cases e:x=v
   · subst e
     have:updF k x u x=u:=if_pos rfl
     rw[this];exact⟨f,d,h1,b,c⟩
   · have:updF k v u x=k x:=if_neg e
     rw[this]at hx ⊢;exact hI.pick x hx
 · by_cases e:q=w v
   · subst e;exact hd
   · refine(hI.dom q).congrG (λ_ _=>rfl) (λ_ _=>rfl) λx y hx=>?_
     have:x≠v:=λa=>e (by rw[← hx.2,a])
     have:updF k v u x=k x:=if_neg this
     show _/\_↔_/\_
     rw[this]
theorem PInv.noDead (hI:PInv G X w k) (l:NoDead G X){v u:Int}(h1:G.E v u) (i:X u) (j:w u=w v) (q:Bool):NoDead (pickG G (updF k v u)) (Rg X w q):=λx ⟨hx,a⟩=>by
 by_cases e:x=v
 · subst e;exact⟨u,⟨h1,.inr (if_pos rfl)⟩,i,by rw[j,a]⟩
 · have c:updF k v u x=k x:=if_neg e
   by_cases b:G.own x=w x
   · obtain⟨m,_,a2,_⟩:=hI.dom q
     obtain⟨⟨d,f⟩,g⟩:=a2 x ⟨hx,a⟩ (by show G.own x=q;rw[b,a])
     exact⟨m x,⟨d,by rw[c];exact f⟩,g⟩
   · obtain⟨y,c1,c2⟩:=l x hx
     refine⟨y,⟨c1,.inl ?_⟩,c2,by rw[hI.yours x y hx b c1 c2,a]⟩
     rw[c]
     apply Classical.byContradiction
     intro hn
     exact b (hI.pick x (by omega)).2.1
inductive Rch (H:Gm) (Y:Int->Prop):Int->Int->Prop
 | refl {v:Int}:Y v->Rch H Y v v
 | step {v u x:Int}:Y v->H.E v u->Rch H Y u x->Rch H Y v x
def Loop (H:Gm) (Y:Int->Prop) (v:Int):Prop:=∃u,H.E v u/\Rch H Y u v
theorem Rch.fst {v x:Int}(h:Rch H Y v x):Y v:=by cases h <;> assumption
theorem Rch.lst {v x:Int}(h:Rch H Y v x):Y x:=by induction h with
 | refl h=>exact h
 | step _ _ _ a=>exact a
theorem Rch.snoc {v x y:Int}(h:Rch H Y v x) (a:H.E x y) (hy:Y y):Rch H Y v y:=by induction h with
 | refl h=>exact .step h a (.refl hy)
 | step h1 b _ c=>exact .step h1 b (c a)
theorem Rch.mono {H':Gm}{Y':Int->Prop}{v x:Int}(h:Rch H Y v x) (hy:∀a,Y a->Y' a) (e:∀a b,Y a->Y b->H.E a b->H'.E a b):Rch H' Y' v x:=by induction h with
 | refl h=>exact .refl (hy _ h)
 | step h1 c d f=>exact .step (hy _ h1) (e _ _ h1 d.fst c) f
theorem Loop.mono {H':Gm}{Y':Int->Prop}{v:Int}(h:Loop H Y v) (hy:∀a,Y a->Y' a) (d:∀a b,Y a->Y b->H.E a b->H'.E a b):Loop H' Y' v:=by
 obtain⟨u,h1,c⟩:=h
 exact⟨u,d v u c.lst c.fst h1,c.mono hy d⟩
theorem Rch.path {v x:Int}(h:Rch H Y v x):∃(m:Nat) (f:Nat->Int),f 0=v/\f m=x/\(∀i,i<m->H.E (f i) (f (i+1)))/\∀i,i<=m->Y (f i):=by induction h with
 | @refl v h=>exact⟨0,λ_=>v,rfl,rfl,λi a=>absurd a (Nat.not_lt_zero i),λ_ _=>h⟩
 | @step v u x h1 d _ e=>
  obtain⟨m,f,a1,a2,b,c⟩:=e
  refine⟨m+1,λi=>match i with | 0=>v | i+1=>f i,rfl,a2,λi a=>?_,λi a=>?_⟩
  · cases i with
    | zero=>show H.E v (f 0);rw[a1];exact d
    | succ i=>exact b i (by omega)
  · cases i with
    | zero=>exact h1
    | succ i=>exact c i (by omega)
theorem Rch.ofPath {f:Nat->Int}(b:∀i,H.E (f i) (f (i+1))){a:Nat}(hy:∀i,a<=i->Y (f i)) (m:Nat):Rch H Y (f a) (f (a+m)):=by induction m with
 | zero=>exact .refl (hy a (by omega))
 | succ m c=>exact c.snoc (b _) (hy _ (by omega))
def Io (S:Nat->Prop):Prop:=∀N,∃m,N<=m/\S m
theorem Io.val {f:Nat->Int}:∀(n:Nat){S:Nat->Prop},Io S->(∀m,S m->0<=f m/\f m<n)->∃v,Io λm=>S m/\f m=v:=by
 intro n
 induction n with
 | zero=>
  intro S b hb
  obtain⟨m,_,hm⟩:=b 0
  have:=hb m hm
  omega
 | succ n i=>
  intro S b hb
  by_cases h:Io λm=>S m/\f m=(n:Int)
  · exact⟨n,h⟩
  · obtain⟨N,d⟩:=Classical.not_forall.1 h
    obtain⟨v,g⟩:=i (S:=λm=>S m/\N<=m) (λM=>by
     obtain⟨m,h1,a⟩:=b (max M N)
     exact⟨m,by omega,a,by omega⟩) (λm hm=>by
     have:=hb m hm.1
     have:¬f m=(n:Int):=λe=>d ⟨m,hm.2,hm.1,e⟩
     omega)
    exact⟨v,λM=>by
     obtain⟨m,h1,a,c⟩:=g M
     exact⟨m,h1,a.1,c⟩⟩
theorem xJ {f:Nat->Int}:∀(b:Nat) (N:Nat),(∀m,N<=m->0<=f m/\f m<b)->∃d,(∀N,∃n,N<=n/\f n=d)/\∃N,∀n,N<=n->f n<=d:=by
 intro b
 induction b with
 | zero=>
  intro N h
  have:=h N (by omega)
  omega
 | succ b g=>
  intro N h
  by_cases a:∀N,∃n,N<=n/\f n=(b:Int)
  · exact⟨b,a,N,λn hn=>by have:=h n hn;omega⟩
  · obtain⟨M,c⟩:=Classical.not_forall.1 a
    refine g (max N M) λm hm=>?_
    have:=h m (by omega)
    have:¬f m=(b:Int):=λe=>c ⟨m,by omega,e⟩
    omega
structure Ans (G:Gm) (X:Int->Prop) (w:Int->Bool) (k:Int->Int):Prop where
 mine:∀v,X v->G.own v=w v->0<=k v/\G.E v (k v)/\X (k v)/\w (k v)=w v
 free:∀v,X v->¬G.own v=w v->k v<0
 yours:∀v u,X v->¬G.own v=w v->G.E v u->X u->w u=w v
 noloop:∀v,X v->¬oddP (G.pri v)=w v->¬Loop (pickG G k) (λx=>Rg X w (w v) x/\G.pri x<=G.pri v) v
theorem Ans.wins (h:Ans G X w k){n b:Nat}(B:∀v,X v->0<=v/\v<n) (hp:∀v,X v->0<=G.pri v/\G.pri v<b){q:Bool}{π:Nat->Int}(hπ:Play G q (Rg X w q) k π):Wins G q π:=by
 obtain⟨d,o,N,p⟩:=xJ (f:=λn=>G.pri (π n)) b 0 λm _=>hp _ (hπ m).1.1
 refine⟨d,?_,o,N,p⟩
 apply Classical.byContradiction
 intro hd
 obtain⟨v,t⟩:=Io.val (f:=π) n (S:=λm=>N<=m/\G.pri (π m)=d) (λM=>by
  obtain⟨m,h1,A⟩:=o (max M N)
  exact⟨m,by omega,by omega,A⟩) (λm _=>B _ (hπ m).1.1)
 obtain⟨c,_,⟨c1,c2⟩,e⟩:=t 0
 obtain⟨j,C,_,z⟩:=t (c+1)
 have c2:G.pri (π c)=d:=c2
 rw[e]at c2
 have g:Rg X w q v:=by rw[← e];exact(hπ c).1
 have r:∀i,(pickG G k).E (π i) (π (i+1)):=λi=>by
  obtain⟨l,u,y⟩:=hπ i
  refine⟨u,?_⟩
  by_cases s:G.own (π i)=q
  · exact .inr (y s).symm
  · exact .inl (h.free _ l.1 (by rw[l.2];exact s))
 have hr:=Rch.ofPath (H:=pickG G k) (Y:=λx=>Rg X w (w v) x/\G.pri x<=G.pri v) (f:=π) r (a:=c+1) (λi D=>⟨by rw[g.2];exact(hπ i).1,by rw[c2];exact p i (by omega)⟩) (j-(c+1))
 rw[show c+1+(j-(c+1))=j from by omega,z]at hr
 refine h.noloop v g.1 (by rw[g.2,c2];exact hd) ⟨π (c+1),?_,hr⟩
 have:=r c
 rwa [e]at this
theorem Ans.dom (h:Ans G X w k){n b:Nat}(f:∀v,X v->0<=v/\v<n) (hp:∀v,X v->0<=G.pri v/\G.pri v<b) (q:Bool):Dom G X q (Rg X w q):=by
 refine⟨k,λv a=>a.1,λv a c=>?_,λv u a c g hx=>⟨hx,?_⟩,λπ hπ=>h.wins f hp hπ⟩
 · obtain⟨a1,a2,d,e⟩:=h.mine v a.1 (by rw[c,a.2])
   exact⟨a2,d,by rw[e,a.2]⟩
 · rw[h.yours v u a.1 (by rw[a.2];exact c) g hx,a.2]
theorem Ans.sol (h:Ans G X w k){n b:Nat}(c:∀v,X v->0<=v/\v<n) (hp:∀v,X v->0<=G.pri v/\G.pri v<b):Sol G X false (Rg X w false):=by
 refine⟨λv f=>f.1,h.dom c hp false,(h.dom c hp true).congr λv=>?_⟩
 constructor
 · rintro⟨h1,a⟩
   exact⟨h1,λd=>absurd (a.symm.trans d.2) (by decide)⟩
 · rintro⟨h1,a⟩
   refine⟨h1,?_⟩
   cases e:w v with
   | true=>rfl
   | false=>exact absurd ⟨h1,e⟩ a
theorem PInv.ans (hI:PInv G X w k) (hk:∀v,X v->G.own v=w v->0<=k v):Ans G X w k:=by
 refine⟨λv o b=>⟨hk v o b,(hI.pick v (hk v o b)).2.2⟩,λv o b=>?_,hI.yours,λv o b hl=>?_⟩
 · apply Classical.byContradiction
   intro hn
   exact b (hI.pick v (by omega)).2.1
 · obtain⟨I,a1,a2,J,B⟩:=hI.dom (w v)
   obtain⟨u,n,hr⟩:=hl
   obtain⟨m,K,L,O,M,P⟩:=(Rch.step hr.lst n hr).path
   -- the loop has at least one step
   have hm:0<m\/True:= .inr trivial
   obtain⟨a,g,q,l,x,H⟩:=hr.path
   let π:Nat->Int:=λi=>if i % (a+1)=0 then v else g (i % (a+1)-1)
   have j:∀i,i % (a+1)=0->π i=v:=λi r=>if_pos r
   have p:∀i,i % (a+1)≠0->π i=g (i % (a+1)-1):=λi r=>if_neg r
   have f:∀i,Rg X w (w v) (π i)/\G.pri (π i)<=G.pri v:=λi=>by
    by_cases e:i % (a+1)=0
    · rw[j i e];exact hr.lst
    · rw[p i e]
      exact H _ (by have:=Nat.mod_lt i (show 0<a+1 by omega);omega)
   have y:∀i,(pickG G k).E (π i) (π (i+1)):=λi=>by
    have Q:=Nat.mod_lt i (show 0<a+1 by omega)
    have hs:(i+1) % (a+1)=if i % (a+1)=a then 0 else i % (a+1)+1:=by
     rw[Nat.add_mod]
     by_cases e:i % (a+1)=a
     · rw[if_pos e,e]
       cases a with
       | zero=>simp
       | succ a=>rw[Nat.mod_eq_of_lt (show 1<a+1+1 by omega),Nat.mod_self]
     · rw[if_neg e,Nat.mod_eq_of_lt (show 1<a+1 by omega),Nat.mod_eq_of_lt (by omega)]
    by_cases e:i % (a+1)=a
    · rw[if_pos e]at hs
      rw[j (i+1) hs]
      by_cases c:i % (a+1)=0
      · rw[j i c]
        have:a=0:=by omega
        subst this
        rw[← l,q]at n ⊢
        rw[q]at l
        rw[← l]at *
        exact n
      · rw[p i c,e,← l]
        have:=x (a-1) (by omega)
        rwa [show a-1+1=a from by omega]at this
    · rw[if_neg e]at hs
      rw[p (i+1) (by omega),hs]
      by_cases c:i % (a+1)=0
      · rw[j i c,c,Nat.zero_add,Nat.sub_self,q];exact n
      · rw[p i c]
        have:=x (i % (a+1)-1) (by omega)
        rwa [show i % (a+1)-1+1=i % (a+1)+1-1 from by omega]at this
   have hπ:Play (pickG G k) (w v) (Rg X w (w v)) I π:=λi=>by
    refine⟨(f i).1,y i,λz=>?_⟩
    have b:G.own (π i)=w (π i):=by rw[(f i).1.2];exact z
    have h0:=hk _ (f i).1.1 b
    have E:=(y i).2.resolve_left (by omega)
    have F:=(a2 _ (f i).1 z).1.2.resolve_left (by omega)
    rw[← E,← F]
   obtain⟨d,t,C,N,D⟩:=B π hπ
   obtain⟨i,R,A⟩:=C N
   have S:=(f i).2
   have s:=D ((a+1) * N) (by
    have:=Nat.le_mul_of_pos_left N (show 0<a+1 by omega)
    exact this)
   rw[j _ (Nat.mul_mod_right _ _)]at s
   have A:G.pri (π i)=d:=A
   have s:G.pri v<=d:=s
   have:d=G.pri v:=by omega
   rw[this]at t
   exact b t
end Go.Proofs.YtleekpaohfpooaaGreat.Par
set_option linter.unusedVariables false
set_option linter.unusedSimpArgs false
namespace Go.Proofs.YtleekpaohfpooaaGreat
open Go Go.Wk Go.Proofs
open Classical
def pkL (k:List Int) (v:Int):Int:=(idx k v).getD (-1)
theorem oX {k:List Int}{v x:Int}(h:idx k v=some x):pkL k v=x:=by unfold pkL;rw[h];rfl
theorem vq {k k':List Int}{v u:Int}(h:setI k v u=some k'):pkL k'=Par.updF (pkL k) v u:=by
 funext w
 unfold pkL Par.updF
 rw[fa h]
 by_cases e:w=v
 · rw[if_pos e,if_pos e];rfl
 · rw[if_neg e,if_neg e]
theorem oD {k:List Int}{n:Nat}(hk:k.length=n){v:Int}(h0:0<=v) (h1:v<n):idx k v=some (pkL k v):=by
 obtain⟨x,hx⟩:=cT (xs:=k) h0 (by omega)
 rw[oX hx];exact hx
def Xn (n:Nat):Int->Prop:=λv=>0<=v/\v<n
theorem rC {a:Arena}{v:Int}(h:idx a.Next v=none):fN a v=[]:=by unfold fN;rw[h];rfl
section
variable {g:Parity}{n:Nat}(h:GOk g n)
include h
theorem zq {v u:Int}(a:(gI g).E v u):Xn n v/\Xn n u:=by
 have a:u∈fN g.Arena v:=a
 cases hr:idx g.Arena.Next v with
 | none=>rw[rC hr]at a;cases a
 | some r=>
  rw[hU hr]at a
  obtain⟨b,c⟩:=dq hr
  have:=h.ln
  exact⟨⟨b,by omega⟩,(h.row v r hr).2.2 u a⟩
theorem xH (P:List (List Int)){k:List Int}(hk:k.length=n):gS ⟨g.Arena.Owner,g.Prio,g.Arena.Next,P,k⟩=Par.pickG (gI g) (pkL k):=by
 unfold gS gI Par.pickG mkG
 dsimp only
 congr 1
 funext v u
 apply propext
 cases hr:idx g.Arena.Next v with
 | none=>
  rw[rC hr]
  unfold rowS
  dsimp only
  rw[hr]
  simp
 | some r=>
  obtain⟨b,c⟩:=dq hr
  have a:=oD hk b (by have:=h.ln;omega)
  rw[hU hr,sk (x:=⟨g.Arena.Owner,g.Prio,g.Arena.Next,P,k⟩) hr a,List.mem_filter]
  unfold okE
  simp
end
theorem ym {x:l7Game}{n:Nat}(wf:WfS x n) (hp:PriOk x.prio){B:List Bool}(hB:B.length=n) (e:Par.NoDead (gS x) (In B)) (q:Bool):mc x B (b2i q)=some (decide (Par.Dom (gS x) (In B) q (In B))):=by
 have hn:=wf.n256
 obtain⟨R,l,t,m⟩:=yy wf hp n B (2 ^ 64) hB e (by have:=mj B;omega) (by omega)
 unfold mc
 rw[l,bG]
 have g:=Par.hold_iff (q:=q) m
 have k:=jd (f:=jz B (b2i q) R) (r:=false) (λi b=> !(b&&(decide (In R (i:Int)) != !q))) (xs:=B) (n:=B.length) rfl (λi b hb=>by
  have s:=(bJ.1 hb).1
  unfold jz
  rw[bT,hb,bG,eG (B:=R) (by omega) (by omega),bG,pM]
  cases b <;> cases(decide (In R (i:Int)) != !q) <;> rfl)
 rw[k,bG]
 have:(B.zipIdx.all λp=> !(p.1&&(decide (In R (p.2:Int)) != !q)))=decide (Par.Dom (gS x) (In B) q (In B)):=by
  rw[zL,decide_eq_true_iff,← g,List.all_eq_true]
  constructor
  · intro ha v c
    obtain⟨o,u⟩:=ik hB c
    obtain⟨i,j⟩:=dy o
    subst j
    have d:idx B (i:Int)=some true:=c
    rw[bT]at d
    have:=ha (true,i) (by rw[List.mem_zipIdx_iff_getElem?];exact d)
    dsimp only at this
    by_cases a:In R (i:Int)
    · rw[decide_eq_true a]at this
      cases q with
      | true=>simp at this
      | false=>exact⟨λ_=>rfl,λ_=>a⟩
    · rw[decide_eq_false a]at this
      cases q with
      | true=>exact⟨λh=>absurd h a,λh=>absurd h (by decide)⟩
      | false=>simp at this
  · rintro hm ⟨b,i⟩ hp
    rw[List.mem_zipIdx_iff_getElem?]at hp
    dsimp only at hp ⊢
    cases b with
    | false=>rfl
    | true=>
     have c:In B (i:Int):=by unfold In;rw[bT];exact hp
     have:=hm _ c
     by_cases a:In R (i:Int)
     · rw[decide_eq_true a,this.1 a];rfl
     · rw[decide_eq_false a]
       cases q with
       | true=>rfl
       | false=>exact absurd (this.2 rfl) a
 rw[this]
 cases decide (Par.Dom (gS x) (In B) q (In B)) <;> rfl
end Go.Proofs.YtleekpaohfpooaaGreat
set_option linter.unusedVariables false
set_option linter.unusedSimpArgs false
namespace Go.Proofs.YtleekpaohfpooaaGreat
open Go Go.Wk Go.Proofs
open Classical
noncomputable def wB (W:Int->Prop) (v:Int):Bool:=decide (¬W v)
theorem xr {W:Int->Prop}{v:Int}:wB W v=false↔W v:=by unfold wB;simp
theorem qC {n:Nat}{W:Int->Prop}{v:Int}(h:Xn n v):idx (wonL n W) v=some (b2i (wB W v)):=by
 obtain⟨h0,h1⟩:=h
 obtain⟨i,a⟩:=dy h0
 subst a
 rw[bT,uc (by omega)];rfl
theorem rI {k:Int->Int}{v a b:Int}:Par.updF (Par.updF k v a) v b=Par.updF k v b:=by
 funext x
 unfold Par.updF
 by_cases e:x=v
 · rw[if_pos e,if_pos e]
 · rw[if_neg e,if_neg e,if_neg e]
theorem wl {k:Int->Int}{v a:Int}(h:k v=a):Par.updF k v a=k:=by
 funext x
 unfold Par.updF
 by_cases e:x=v
 · rw[if_pos e,e,h]
 · rw[if_neg e]
theorem yb {a b:List Int}{n:Nat}(ha:a.length=n) (hb:b.length=n) (h:pkL a=pkL b):a=b:=by
 apply List.ext_getElem?
 intro i
 by_cases d:i<n
 · have h1:=oD ha (v:=(i:Int)) (by omega) (by omega)
   have c:=oD hb (v:=(i:Int)) (by omega) (by omega)
   rw[bT]at h1 c
   rw[h1,c,h]
 · rw[zM (by omega),zM (by omega)]
theorem tf {C:Int->Prop}:∀{row:List Int},(∃u,u∈row/\C u)->∃(i:Nat) (u:Int),row[i]? =some u/\C u/\∀(j:Nat) y,j<i->row[j]? =some y->¬C y
 | [],h=>by obtain⟨u,a,_⟩:=h;cases a
 | x::r,h=>by
  by_cases hx:C x
  · exact⟨0,x,rfl,hx,λj y hj=>absurd hj (Nat.not_lt_zero j)⟩
  · obtain⟨i,u,h1,b,c⟩:=tf (C:=C) (row:=r) (by
     obtain⟨u,a,hc⟩:=h
     rcases List.mem_cons.1 a with e | e
     · subst e;exact absurd hc hx
     · exact⟨u,e,hc⟩)
    refine⟨i+1,u,by simpa using h1,b,λj y hj hy=>?_⟩
    cases j with
    | zero=>
     have:x=y:=by simpa using hy
     subst this;exact hx
    | succ j=>exact c j y (by omega) (by simpa using hy)
theorem vo {g:Parity}{n:Nat}(h:GOk g n){v:Int}(b:Xn n v):idx g.Arena.Owner v=some (b2i ((gI g).own v)):=by
 obtain⟨o,a⟩:=cT (xs:=g.Arena.Owner) (i:=v) b.1 (by have:=h.lo;have:=b.2;omega)
 rw[a]
 show _=some (b2i (ownL g.Arena.Owner v))
 unfold ownL
 rw[a]
 rcases h.ow v o a with rfl | rfl <;> rfl
end Go.Proofs.YtleekpaohfpooaaGreat
set_option linter.unusedVariables false
set_option linter.unusedSimpArgs false
namespace Go.Proofs.YtleekpaohfpooaaGreat
open Go Go.Wk Go.Proofs
open Classical
theorem tX {n:Nat}{W:Int->Prop}(hn:n<=256) (q:Bool):∃B,gQ (wonL n W) (b2i q)=some B/\B.length=n/\In B=Par.Rg (Xn n) (wB W) q:=by
 have hl:=qD n W
 unfold gQ
 rw[hl,gh (by omega) rfl,bG]
 obtain⟨s,h1,a,b⟩:=fillB (f:=iE (wonL n W) (b2i q)) (Par.Rg (Xn n) (wB W) q) n (s0:=bK n false) (by simp) (λj s hj hs=>by
  have hx:Xn n (j:Int):=⟨by omega,by omega⟩
  unfold iE
  rw[qC hx,bG,uU]
  have:(wB W (j:Int)==q)=decide (Par.Rg (Xn n) (wB W) q (j:Int)):=by
   rw[zL,decide_eq_true_iff]
   unfold Par.Rg
   simp[hx]
  rw[this]) (λv c=>c.1)
 rw[h1,bG,ca]
 exact⟨s,rfl,a,funext λv=>propext (b v)⟩
section
variable {g:Parity}{n:Nat}(hp:dA g=true) (hn:n=g.Prio.length){W:Int->Prop}(hW:Par.Sol (gI g) (Xn n) false W)
include hp hn hW
omit hW in
theorem zl {P:List (List Int)}(K:PrevT g.Arena.Next n n P){k:List Int}(hk:k.length=n) (hI:Par.PInv (gI g) (Xn n) (wB W) (pkL k)){v:Int}(a:Xn n v) (O:(gI g).own v=wB W v){row:List Int}(hr:idx g.Arena.Next v=some row){i:Nat}{u:Int}(h1:row[i]? =some u)
 (w:wB W u=wB W v/\Par.Dom (Par.pickG (gI g) (Par.updF (pkL k) v u)) (Par.Rg (Xn n) (wB W) (wB W v)) (wB W v) (Par.Rg (Xn n) (wB W) (wB W v)))
 (H:∀(j:Nat) y,j<i->row[j]? =some y->¬(wB W y=wB W v/\Par.Dom (Par.pickG (gI g) (Par.updF (pkL k) v y)) (Par.Rg (Xn n) (wB W) (wB W v)) (wB W v) (Par.Rg (Xn n) (wB W) (wB W v))))
 {B:List Bool} (hB:B.length=n) (d:In B=Par.Rg (Xn n) (wB W) (wB W v)):
 ∃k',np ⟨g.Arena.Owner,g.Prio,g.Arena.Next,P,k⟩ B v=some (u,k')/\k'.length=n/\pkL k'=Par.updF (pkL k) v u:=by
 have h:=GOk.of hp
 rw[← hn]at h
 have M:Par.NoDead (gI g) (Xn n):=qi h (rE hp)
 obtain⟨ab,ac,S⟩:=h.row v row hr
 have V:=(bJ.1 h1).1
 have X:=h.n256
 unfold np
 obtain⟨o,w1,m⟩:=cZ (f:=kh ⟨g.Arena.Owner,g.Prio,g.Arena.Next,P,k⟩ B v) (λj (t:Int×List Int)=>t.1=(j:Int)/\j<=i/\t.2.length=n/\∃z,pkL t.2=Par.updF (pkL k) v z) (λ(t:Int×List Int)=>t.1=u/\t.2.length=n/\pkL t.2=Par.updF (pkL k) v u) (λ_=>False) i (λj t ⟨a1,a2,p,z,c⟩=>by
  obtain⟨Z,t⟩:=t
  dsimp only at a1 p c
  subst a1
  have hjl:j<row.length:=by omega
  have hy:row[j]? =some row[j]:=bI hjl
  generalize row[j]=y at hy
  obtain⟨G,U⟩:=S y (bL hy)
  have F:Xn n y:=⟨G,U⟩
  have R:(gI g).E v y:=by show y∈fN g.Arena v;rw[hU hr];exact bL hy
  unfold kh
  dsimp only
  rw[hr,bG,decide_eq_true (show(j:Int)<(row.length:Int) by omega),cond_true,bG,bT,hy,bG,eG (B:=B) G (by omega),bG]
  have I:decide (In B y)=(wB W y==wB W v):=by
   rw[zL,decide_eq_true_iff,d]
   unfold Par.Rg
   simp[F]
  have D:IntKind.i64.wrap ((j:Int)+1)=((j+1:Nat):Int):=by rw[wr' (by omega) (by omega)];omega
  rw[I]
  cases hc:(wB W y==wB W v) with
  | false=>
   simp only[Bool.not_false,cond_true,D]
   have N:¬wB W y=wB W v:=by simpa using hc
   have:j≠i:=λe=>by subst e;rw[h1]at hy;cases hy;exact N w.1
   exact⟨_,rfl,by omega,rfl,by omega,p,z,c⟩
  | true=>
   have E:wB W y=wB W v:=by simpa using hc
   obtain⟨aa,Q⟩:=cT (xs:=t) (i:=v) a.1 (by have:=a.2;omega)
   obtain⟨t',C,Y⟩:=eu (xs:=t) (i:=v) y a.1 (by have:=a.2;omega)
   have l:pkL t'=Par.updF (pkL k) v y:=by rw[vq C,c,rI]
   have b:t'.length=n:=by omega
   have x:gS ⟨g.Arena.Owner,g.Prio,g.Arena.Next,P,t'⟩=Par.pickG (gI g) (Par.updF (pkL k) v y):=by rw[xH h P b,l]
   have J:Par.NoDead (gS ⟨g.Arena.Owner,g.Prio,g.Arena.Next,P,t'⟩) (In B):=by
    rw[x,d]
    exact hI.noDead M R F E _
   have A:=ym (h.wfS K b) h.pri hB J (wB W v)
   rw[x,d]at A
   simp only[sh,cond_false]
   rw[Q,bG,C,bG,vo h a,O,bG,A,bG]
   by_cases hd:Par.Dom (Par.pickG (gI g) (Par.updF (pkL k) v y)) (Par.Rg (Xn n) (wB W) (wB W v)) (wB W v) (Par.Rg (Xn n) (wB W) (wB W v))
   · rw[decide_eq_true hd,cond_true]
     have:¬j<i:=λL=>H j y L hy ⟨E,hd⟩
     have:j=i:=by omega
     subst this
     rw[h1]at hy;cases hy
     exact⟨_,rfl,rfl,b,l⟩
   · rw[decide_eq_false hd,cond_false,D]
     have:j≠i:=λe=>by subst e;rw[h1]at hy;cases hy;exact hd w.2
     exact⟨_,rfl,by omega,rfl,by omega,b,y,l⟩) (2 ^ 64) 0 (0,k) (by omega) ⟨rfl,by omega,hk,pkL k v,(wl rfl).symm⟩ (by omega)
 match o,m with
 | .inl t,m=>
  obtain⟨q,r,s⟩:=m
  obtain⟨ad,T⟩:=t
  dsimp only at q r s
  subst q
  rw[w1,bG,xx]
  exact⟨T,rfl,r,s⟩
omit hp hn hW in
theorem ob {n:Nat}(v:Int):pkL (bK n (-1)) v= -1:=by
 unfold pkL
 cases h:idx (bK n (-1:Int)) v with
 | none=>rfl
 | some x=>
  obtain⟨a,b⟩:=dq h
  rw[cY a,gs]at h
  split at h
  · cases h;rfl
  · cases h
omit hW in
theorem um {A:List Int}(c:jX g=some A) (t:A.length<=256):kR g (bK n (-1))=some true:=by
 have h:=GOk.of hp
 rw[← hn]at h
 obtain⟨h1,m,o,p,q⟩:=fS hp
 have d:m9 g (bK n (-1))=some (g,true):=by
  unfold m9
  rw[nR,hp,bG]
  have e:mh g (bK n (-1))=some true:=by
   unfold mh
   rw[List.length_replicate,← hn]
   have:=dt (f:=jA g (bK n (-1))) (r:=false) (λ_:Int=>true) (xs:=bK n (-1)) (n:=n) (by simp) (λi x hx=>by
    unfold jA
    have l:x= -1:=by
     rw[gs]at hx
     split at hx
     · cases hx;rfl
     · cases hx
    rw[bT,hx,bG,l];rfl)
   rw[this]
   simp only[bne_self_eq_false,cond_false,List.all_eq_true,implies_true,if_true,bG,ca]
  rw[e]
  simp only[sh,cond_false,bG]
  rw[uJ (by have:=h.lo;have:=h.n256;omega),bG,uJ (by omega),bG,List.length_replicate]
  obtain⟨s,a,b⟩:=cJ (f:=j7 g (bK n (-1))) (λj (s:List (List Int))=>s=g.Arena.Next.take j) n (s:=[]) rfl (λj s hj hs=>by
   subst hs
   have hx:g.Arena.Next[j]? =some (g.Arena.Next[j]'(by have:=h.ln;omega)):=bI (by have:=h.ln;omega)
   generalize g.Arena.Next[j]'(by have:=h.ln;omega)=row at hx
   obtain⟨u,_,_⟩:=h.row (j:Int) row (by rw[bT];exact hx)
   have hk:idx (bK n (-1:Int)) (j:Int)=some (-1):=by rw[bT,gs,if_pos hj]
   unfold j7
   rw[bT,hx,bG,uJ (by omega),bG,hk,bG]
   simp only[show decide ((0:Int)<= -1)=false from rfl,cond_false,bG]
   rw[app1 (by rw[zJ];omega) rfl,bG]
   refine⟨_,rfl,?_⟩
   rw[zO,hx];rfl)
  rw[a,b,bG,ca,List.take_of_length_le (by have:=h.ln;omega)]
 unfold kR
 rw[d,bG]
 dsimp only
 rw[cond_true,c,bG,bG]
 have k:nq A A=some true:=by
  unfold nq
  have:=dt (f:=ki A A) (r:=false) (λ_:Int=>true) (xs:=A) (n:=A.length) rfl (λi x hx=>by
   unfold ki
   rw[bT,hx,bG,bG]
   simp)
  rw[this]
  simp only[bne_self_eq_false,cond_false,List.all_eq_true,implies_true,if_true,bG,ca]
 rw[k];rfl
end
end Go.Proofs.YtleekpaohfpooaaGreat
set_option linter.unusedVariables false
set_option linter.unusedSimpArgs false
namespace Go.Proofs.YtleekpaohfpooaaGreat
open Go Go.Wk Go.Proofs
open Classical
theorem tR {n:Nat}(hn:n<=256):nk (n:Int)=some (bK n (-1)):=by
 unfold nk
 have hr:rng (n:Int)=some ():=by
  unfold rng
  first
   | rfl
   | rw[if_pos (by omega)]
 rw[hr,bG,show Int.toNat ((n:Int)-0)=n from by omega]
 obtain⟨s,h1,a⟩:=cJ (f:=kg) (λj (s:List Int)=>s=bK j (-1)) n (s:=[]) rfl (λj s hj hs=>by
  subst hs
  unfold kg
  rw[app1 (by simp;omega) rfl,bG]
  exact⟨_,rfl,by rw[List.replicate_succ']⟩)
 rw[h1,bG,ca,a]
structure Solv (g:Parity) (W:Int->Prop) (k:List Int):Prop where
 sol:Par.Sol (gI g) (Xn g.Prio.length) false W
 len:k.length=g.Prio.length
 pick:∀v x,idx k v=some x->x= -1\/0<=x
 ans:Par.Ans (gI g) (Xn g.Prio.length) (wB W) (pkL k)
end Go.Proofs.YtleekpaohfpooaaGreat
set_option linter.unusedVariables false
set_option linter.unusedSimpArgs false
namespace Go.Proofs.YtleekpaohfpooaaGreat
open Go Go.Wk Go.Proofs
def lasso (b:Int->Int):Nat->List Int->Int->List Int×Int
 | 0,T,q=>(T,q)
 | k+1,T,q=>if q∈T then(T,q) else lasso b k (T++[q]) (b q)
theorem n7 {b:Int->Int}{n:Nat}(hb:∀q:Int,0<=q->q<n->0<=b q/\b q<n):∀(k:Nat) (T:List Int) (q:Int),n<k+T.length->T.Nodup->(∀x∈T,0<=x/\x<n)->0<=q->q<n ->
 (lasso b k T q).2∈(lasso b k T q).1/\(lasso b k T q).1.Nodup/\(∀x∈(lasso b k T q).1,0<=x/\x<n)
 | 0,T,q,hk,hn,hr,_,_=>absurd (di n T hn hr) (by omega)
 | k+1,T,q,hk,hn,hr,q0,q1=>by
  unfold lasso
  by_cases d:q∈T
  · rw[if_pos d];exact⟨d,hn,hr⟩
  · rw[if_neg d]
    have f:(T++[q]).Nodup:=by
     rw[List.nodup_append]
     refine⟨hn,by simp,λa ha c hc e=>?_⟩
     rw[zG]at hc
     exact d (by rw[← hc,← e];exact ha)
    exact n7 hb k (T++[q]) (b q) (by simp;omega) f (λx hx=>by
     rw[zN,zG]at hx
     rcases hx with hx | rfl
     · exact hr x hx
     · exact⟨q0,q1⟩) (hb q q0 q1).1 (hb q q0 q1).2
theorem ny {l d:Type}{f:d->Option (l⊕(d⊕d))}(st:List Int->Int->d){b:Int->Int}{n:Nat}(hb:∀q:Int,0<=q->q<n->0<=b q/\b q<n)
 (i:∀(T:List Int) (q:Int),T.length<=n->(∀x∈T,0<=x/\x<(n:Int))->0<=q->q<n->f (st T q)=some (if q∈T then .inr (.inl (st T q)) else .inr (.inr (st (T++[q]) (b q))))):
 ∀(k:Nat) (K:Nat) (T:List Int) (q:Int),n<k+T.length->k<=K->T.Nodup->(∀x∈T,0<=x/\x<n)->0<=q->q<n->cu f K (st T q)=some (.inr (st (lasso b k T q).1 (lasso b k T q).2))
 | 0,K,T,q,hk,_,hn,hr,_,_=>absurd (di n T hn hr) (by omega)
 | k+1,K,T,q,hk,hK,hn,hr,q0,q1=>by
  rw[jQ (by omega),i T q (di n T hn hr) hr q0 q1,bG]
  unfold lasso
  by_cases g:q∈T
  · simp only[g,if_true];rfl
  · simp only[g,if_false]
    have j:(T++[q]).Nodup:=by
     rw[List.nodup_append]
     refine⟨hn,by simp,λa ha c hc e=>?_⟩
     rw[zG]at hc
     exact g (by rw[← hc,← e];exact ha)
    exact ny st hb i k (K-1) (T++[q]) (b q) (by simp;omega) (by omega) j (λx hx=>by
     rw[zN,zG]at hx
     rcases hx with hx | rfl
     · exact hr x hx
     · exact⟨q0,q1⟩) (hb q q0 q1).1 (hb q q0 q1).2
def gi (xs:List Int) (v:Int):Int:=match xs.findIdx? (λx=>v==x) with | some i=>(i:Int) | none=> -1
theorem rv {xs:List Int}{v:Int}(h:v∉xs):gi xs v= -1:=by
 unfold gi
 have:xs.findIdx? (λx=>v==x)=none:=by
  rw[List.findIdx?_eq_none_iff]
  intro x hx
  simp only[beq_eq_false_iff_ne]
  exact λe=>h (e ▸ hx)
 rw[this]
theorem oF {xs:List Int}{v:Int}(h:v∈xs):∃i:Nat,gi xs v=(i:Int)/\i<xs.length/\xs[i]? =some v:=by
 unfold gi
 cases a:xs.findIdx? (λx=>v==x) with
 | none=>
  rw[List.findIdx?_eq_none_iff]at a
  have:=a v h
  simp at this
 | some i=>
  rw[List.findIdx?_eq_some_iff_getElem]at a
  obtain⟨h1,b,_⟩:=a
  refine⟨i,rfl,h1,?_⟩
  rw[bI h1]
  have:=beq_iff_eq.1 b
  rw[← this]
theorem pv (xs:List Int) (v:Int):xs.any (λx=>v==x)=decide (v∈xs):=by
 rw[zL,List.any_eq_true,decide_eq_true_eq]
 constructor
 · rintro⟨x,hx,e⟩
   rw[beq_iff_eq]at e
   exact e ▸ hx
 · exact λh=>⟨v,h,by simp⟩
theorem tD (xs:List Int) (v:Int):decide (gi xs v<0)= !decide (v∈xs):=by
 by_cases h:v∈xs
 · obtain⟨i,h1,_⟩:=oF h
   rw[h1]
   have:¬(i:Int)<0:=by omega
   simp[h,this]
 · rw[rv h]
   simp[h]
theorem io {part:Int->List Int}{l:Nat}(hp:∀x,(part x).length=l):∀T:List Int,(T.flatMap part).length=T.length * l
 | []=>by simp
 | x::T=>by rw[List.flatMap_cons,zF,hp,io hp T,zI,Nat.add_mul,Nat.one_mul,Nat.add_comm]
theorem re {part:Int->List Int}{l:Nat}(hp:∀x,(part x).length=l) (T:List Int) (k:Nat):(T.flatMap part).take (k * l)=(T.take k).flatMap part/\(T.flatMap part).drop (k * l)=(T.drop k).flatMap part:=by
 by_cases hk:k<=T.length
 · have e:T.flatMap part=(T.take k).flatMap part++(T.drop k).flatMap part:=by rw[← List.flatMap_append,List.take_append_drop]
   have hl:((T.take k).flatMap part).length=k * l:=by rw[io hp,zJ,Nat.min_eq_left hk]
   rw[e]
   exact⟨by rw[List.take_append_of_le_length (by omega),List.take_of_length_le (by omega)],by rw[List.drop_append_of_le_length (by omega),List.drop_of_length_le (by omega),List.nil_append]⟩
 · have hl:=io hp T
   have:T.length * l<=k * l:=Nat.mul_le_mul_right _ (by omega)
   rw[List.take_of_length_le (by omega),List.drop_of_length_le (by omega),List.take_of_length_le (by omega),List.drop_of_length_le (by omega)]
   exact⟨rfl,rfl⟩
theorem yD {part:Int->List Int}{l:Nat}(hp:∀x,(part x).length=l) (A:List Int){T:List Int}{k:Nat}(hk:k<=T.length):
 subS (A++T.flatMap part) 0 ((A.length+k * l:Nat):Int)=some (A++(T.take k).flatMap part)/\subS (A++T.flatMap part) ((A.length+k * l:Nat):Int) ((A++T.flatMap part).length:Int)=some ((T.drop k).flatMap part):=by
 have b:k * l<=T.length * l:=Nat.mul_le_mul_right _ hk
 have a:(A++T.flatMap part).length=A.length+T.length * l:=by rw[zF,io hp]
 have ht:=re hp T k
 constructor
 · unfold subS
   rw[if_pos ⟨by omega,by omega,by rw[a];omega⟩]
   rw[zH,Int.toNat_zero,List.drop_zero,List.take_length_add_append,ht.1]
 · unfold subS
   rw[if_pos ⟨by omega,by rw[a];omega,by omega⟩]
   rw[zH,zH,List.take_length,List.drop_length_add_append,ht.2]
end Go.Proofs.YtleekpaohfpooaaGreat
set_option linter.unusedVariables false
set_option linter.unusedSimpArgs false
namespace Go.Proofs.YtleekpaohfpooaaGreat
open Go Go.Wk Go.Proofs
theorem ib (xs:List Int) (v:Int):ia xs v=some (gi xs v):=by
 unfold ia gi
 rw[ee (f:=ju xs v) (λx=>v==x) (λi=>(i:Int)) (xs:=xs) (λi x hx=>by
  unfold ju
  rw[bT,hx,bG,show(x==v)=(v==x) from BEq.comm]
  cases v==x <;> rfl),bG]
 cases xs.findIdx? (λx=>v==x) <;> rfl
end Go.Proofs.YtleekpaohfpooaaGreat
set_option linter.unusedVariables false
set_option linter.unusedSimpArgs false
namespace Go.Proofs.YtleekpaohfpooaaGreat
open Go Go.Wk Go.Proofs
theorem tk (xs:List Int) (v:Int):db xs v=some (gi xs v):=ja xs v
end Go.Proofs.YtleekpaohfpooaaGreat
set_option linter.unusedVariables false
set_option linter.unusedSimpArgs false
namespace Go.Proofs.YtleekpaohfpooaaGreat
open Go Go.Wk Go.Proofs
def addN (xs:List Int) (u:Int):List Int:=if u∈xs then xs else xs++[u]
def Names (n:Nat) (xs:List Int):Prop:=xs.Nodup/\∀x∈xs,0<=x/\x<n
theorem Names.len {n:Nat}{xs:List Int}(h:Names n xs):xs.length<=n:=di n xs h.1 h.2
theorem Names.add {n:Nat}{xs:List Int}(h:Names n xs){u:Int}(d:0<=u) (f:u<n):Names n (addN xs u)/\∀(k:Nat) v,xs[k]? =some v->(addN xs u)[k]? =some v:=by
 unfold addN
 by_cases b:u∈xs
 · rw[if_pos b];exact⟨h,λk v hk=>hk⟩
 · rw[if_neg b]
   refine⟨⟨?_,λx hx=>?_⟩,λk v hk=>?_⟩
   · rw[List.nodup_append]
     refine⟨h.1,by simp,λa ha c hc e=>?_⟩
     rw[zG]at hc
     exact b (by rw[← hc,← e];exact ha)
   · rw[zN,zG]at hx
     rcases hx with hx | rfl
     · exact h.2 x hx
     · exact⟨d,f⟩
   · rw[List.getElem?_append_left (bJ.1 hk).1];exact hk
end Go.Proofs.YtleekpaohfpooaaGreat
set_option linter.unusedVariables false
set_option linter.unusedSimpArgs false
namespace Go.Proofs.YtleekpaohfpooaaGreat
open Go Go.Wk Go.Proofs
theorem yR {x k:Place}(h:(x.At==k.At&&x.Record==k.Record)=true):x=k:=by
 rw[n6,beq_iff_eq,beq_iff_eq]at h
 cases x
 cases k
 simp only at h
 rw[h.1,h.2]
def locR (K:List Place) (k:Place):Option Nat:=K.findIdx? (λx=>x.At==k.At&&x.Record==k.Record)
def addR (K:List Place) (k:Place):List Place:=match locR K k with | some _=>K | none=>K++[k]
def atR (K:List Place) (k:Place):Int:=match locR K k with | some i=>(i:Int) | none=>(K.length:Int)
theorem sW (K:List Place) (k:Place):K.length<=(addR K k).length/\(addR K k).length<=K.length+1:=by
 unfold addR
 cases locR K k <;> simp
theorem sV {K:List Place}{k:Place}{i:Nat}{v:Place}(h:K[i]? =some v):(addR K k)[i]? =some v:=by
 unfold addR
 cases locR K k with
 | some _=>exact h
 | none=>
  have:=(bJ.1 h).1
  dsimp only
  rw[List.getElem?_append_left this];exact h
theorem wq {K:List Place}{k x:Place}(h:x∈addR K k):x∈K\/x=k:=by
 unfold addR at h
 cases e:locR K k with
 | some _=>rw[e]at h;exact .inl h
 | none=>rw[e]at h;simpa using h
theorem vU {K:List Place}{k:Place}{i:Nat}(h:locR K k=some i):K[i]? =some k:=by
 unfold locR at h
 obtain⟨h1,a,b⟩:=List.findIdx?_eq_some_iff_getElem.1 h
 have:k=K[i]:=(yR a).symm
 rw[bI h1,← this]
theorem vT {K:List Place}{k:Place}(h:locR K k=none):k∉K:=λhm=>by
 unfold locR at h
 rw[List.findIdx?_eq_none_iff]at h
 have:=h k hm
 simp at this
theorem xB (K:List Place) (k:Place):0<=atR K k/\(addR K k)[(atR K k).toNat]? =some k:=by
 unfold atR addR
 cases h:locR K k with
 | none=>exact⟨by dsimp only;omega,by dsimp only;rw[zH];simp⟩
 | some i=>exact⟨by dsimp only;omega,by dsimp only;rw[zH];exact vU h⟩
theorem ug {K:List Place}(hn:K.Nodup) (k:Place):(addR K k).Nodup:=by
 unfold addR
 cases h:locR K k with
 | none=>
  dsimp only
  refine List.nodup_append.2 ⟨hn,by simp,λa ha b hb e=>?_⟩
  rw[zG]at hb
  exact vT h (hb ▸ e ▸ ha)
 | some i=>exact hn
def gB (a:Nat->Place) (K:List Place):Nat->List Place×List Int
 | 0=>(K,[])
 | j+1=>(addR (gB a K j).1 (a j),(gB a K j).2++[atR (gB a K j).1 (a j)])
structure RowR (ky:Nat->Place) (K:List Place) (j:Nat) (K':List Place) (row:List Int):Prop where
 pre:∀(i:Nat) v,K[i]? =some v->K'[i]? =some v
 len:K.length<=K'.length
 le:K'.length<=K.length+j
 nod:K.Nodup->K'.Nodup
 rl:row.length=j
 at_:∀i:Nat,i<j->∃x,row[i]? =some x/\0<=x/\K'[x.toNat]? =some (ky i)
 mem:∀v∈K',v∈K\/∃i:Nat,i<j/\v=ky i
theorem nF (b:Nat->Place) (K:List Place):∀j,RowR b K j (gB b K j).1 (gB b K j).2
 | 0=>⟨λ_ _ h=>h,Nat.le_refl _,Nat.le_refl _,id,rfl,λi c=>absurd c (Nat.not_lt_zero i),λv h=> .inl h⟩
 | j+1=>by
  have h:=nF b K j
  unfold gB
  generalize gB b K j=F at *
  have hl:=sW F.1 (b j)
  obtain⟨f,a1⟩:=xB F.1 (b j)
  refine⟨λi v a=>sV (h.pre i v a),Nat.le_trans h.len hl.1,?_,λhn=>ug (h.nod hn) _,by simp[h.rl],λi c=>?_,λv a=>?_⟩
  · have:=h.le;dsimp only;omega
  · by_cases e:i=j
    · subst e
      refine⟨_,by rw[← h.rl];simp,f,a1⟩
    · obtain⟨x,d,l,m⟩:=h.at_ i (by omega)
      have g:=(bJ.1 d).1
      exact⟨x,by rw[List.getElem?_append_left g];exact d,l,sV m⟩
  · rcases wq a with a | a
    · rcases h.mem v a with k | ⟨i,c,e⟩
      · exact .inl k
      · exact .inr ⟨i,by omega,e⟩
    · exact .inr ⟨j,by omega,a⟩
end Go.Proofs.YtleekpaohfpooaaGreat
set_option linter.unusedVariables false
set_option linter.unusedSimpArgs false
namespace Go.Proofs.YtleekpaohfpooaaGreat
open Go Go.Wk Go.Proofs
def du (ps:List Pair) (v i:Int):Bool:=match idx ps i with | some p=>decide (v∈p.Give) | none=>false
def askI (ps:List Pair) (v i:Int):Bool:=match idx ps i with | some p=>decide (v∈p.Ask) | none=>false
def jE (ps:List Pair) (rc:List Int) (v:Int):List Int:=rc.filter (du ps v)++rc.filter λi=> !du ps v i
def dz (f:Int->Bool) (xs:List Int):Nat->Int
 | 0=> -1
 | j+1=>bif (match xs[j]? with | some x=>f x | none=>false) then(j:Int) else dz f xs j
def lU (ps:List Pair) (rc:List Int) (v:Int):Int:=
 bif decide (dz (askI ps v) rc rc.length<0)&&decide (dz (du ps v) rc rc.length<0) then 0
 else bif decide (dz (du ps v) rc rc.length<dz (askI ps v) rc rc.length) then 2 * dz (askI ps v) rc rc.length+1
 else 2 * dz (du ps v) rc rc.length+2
theorem kK (f:Int->Bool) (xs:List Int):∀j:Nat,-1<=dz f xs j/\dz f xs j<j
 | 0=>by unfold dz;omega
 | j+1=>by
  have:=kK f xs j
  unfold dz
  cases(match xs[j]? with | some x=>f x | none=>false) with
  | true=>rw[cond_true];omega
  | false=>rw[cond_false];omega
theorem wX (ps:List Pair){rc:List Int}(v:Int) (h:rc.length<=4):inR 41 (lU ps rc v)=true:=by
 have a:=kK (askI ps v) rc rc.length
 have g:=kK (du ps v) rc rc.length
 rw[dv]
 unfold lU
 generalize dz (askI ps v) rc rc.length=x at *
 generalize dz (du ps v) rc rc.length=y at *
 by_cases h1:x<0
 · by_cases c:y<0
   · simp[h1,c]
   · by_cases b:y<x
     · omega
     · simp only[h1,c,b,decide_true,decide_false,Bool.and_false,cond_false];omega
 · by_cases b:y<x
   · simp only[h1,b,decide_true,decide_false,Bool.false_and,cond_false,cond_true];omega
   · simp only[h1,b,decide_false,Bool.false_and,cond_false];omega
theorem nX (p:Int->Bool):∀xs:List Int,(xs.filter p).length+(xs.filter λx=> !p x).length=xs.length
 | []=>rfl
 | x::xs=>by
  have:=nX p xs
  simp only[List.filter_cons]
  cases p x <;> simp <;> omega
theorem tx (ps:List Pair){rc:List Int}{k:Nat}(v:Int) (hl:rc.length=k) (hr:∀x∈rc,0<=x/\x<(k:Int)):(jE ps rc v).length=k/\∀x∈jE ps rc v,0<=x/\x<(k:Int):=by
 unfold jE
 refine⟨by rw[zF,nX,hl],λx hx=>?_⟩
 rcases zN.1 hx with h | h
 · exact hr x (List.mem_filter.1 h).1
 · exact hr x (List.mem_filter.1 h).1
theorem tw (ps:List Pair){rc:List Int}(v:Int) (h:rc.Nodup):(jE ps rc v).Nodup:=by
 unfold jE
 rw[List.nodup_append]
 refine⟨h.sublist List.filter_sublist,h.sublist List.filter_sublist,λa ha b hb e=>?_⟩
 subst e
 have h1:=(List.mem_filter.1 ha).2
 have c:=(List.mem_filter.1 hb).2
 rw[h1]at c
 cases c
structure VOk (n k:Nat) (v:Place):Prop where
 a0:0<=v.At
 a1:v.At<(n:Int)
 rl:v.Record.length=k
 rin:∀x∈v.Record,0<=x/\x<(k:Int)
 nd:v.Record.Nodup
def kyR (ar rc:List Int) (i:Nat):Place:=⟨ar.getD i 0,rc⟩
structure RowP (P:List Place) (ar rc r:List Int):Prop where
 asc:Asc r
 len:r.length=ar.length
 to:∀y∈r,0<=y/\∃u∈ar,P[y.toNat]? =some ⟨u,rc⟩
 has:∀u∈ar,∃y∈r,0<=y/\P[y.toNat]? =some ⟨u,rc⟩
theorem RowP.mono {P P':List Place}{ar rc r:List Int}(h:RowP P ar rc r) (hp:∀(i:Nat) v,P[i]? =some v->P'[i]? =some v):RowP P' ar rc r:=
 ⟨h.asc,h.len,λy hy=>by
  obtain⟨a,u,b,c⟩:=h.to y hy
  exact⟨a,u,b,hp _ _ c⟩,λu d=>by
  obtain⟨y,a,b,c⟩:=h.has u d
  exact⟨y,a,b,hp _ _ c⟩⟩
theorem uE {ar rc:List Int}{P:List Place}(hn:ar.Nodup):(gB (kyR ar rc) P ar.length).2.Nodup:=by
 have r:=nF (kyR ar rc) P ar.length
 generalize gB (kyR ar rc) P ar.length=G at *
 have hrl:=r.rl
 refine List.pairwise_iff_getElem.2 λi j d hj f e=>?_
 obtain⟨x,a,_,k⟩:=r.at_ i (by omega)
 obtain⟨y,b,_,c⟩:=r.at_ j (by omega)
 rw[bI d]at a
 rw[bI hj]at b
 have g:x=y:=by rw[← Option.some.inj a,← Option.some.inj b];exact e
 subst g
 rw[k]at c
 have:=congrArg Place.At (Option.some.inj c)
 simp only[kyR,List.getD_eq_getElem?_getD,bI (show i<ar.length by omega),bI (show j<ar.length by omega),Option.getD_some]at this
 exact(List.pairwise_iff_getElem.1 hn) i j (by omega) (by omega) f this
theorem yj {ar rc:List Int}{P:List Place}{S:List Int}(f:Asc S) (hl:S.length=ar.length) (hm:∀y,y∈S↔y∈(gB (kyR ar rc) P ar.length).2):RowP (gB (kyR ar rc) P ar.length).1 ar rc S:=by
 have r:=nF (kyR ar rc) P ar.length
 generalize gB (kyR ar rc) P ar.length=G at *
 have hrl:=r.rl
 have g:∀i,i<ar.length->kyR ar rc i=⟨ar.getD i 0,rc⟩/\ar.getD i 0∈ar:=λi a=>⟨rfl,by
  rw[List.getD_eq_getElem?_getD,bI a]
  exact List.getElem_mem a⟩
 refine⟨f,hl,λy hy=>?_,λu j=>?_⟩
 · obtain⟨i,a⟩:=List.getElem?_of_mem ((hm y).1 hy)
   have e:=(bJ.1 a).1
   obtain⟨x,b,c,d⟩:=r.at_ i (by omega)
   rw[a]at b
   cases b
   obtain⟨k1,k⟩:=g i (by omega)
   exact⟨c,_,k,by rw[d,k1]⟩
 · obtain⟨i,a⟩:=List.getElem?_of_mem j
   have e:=(bJ.1 a).1
   obtain⟨x,b,c,d⟩:=r.at_ i e
   refine⟨x,(hm x).2 (bL b),c,?_⟩
   rw[d]
   unfold kyR
   rw[List.getD_eq_getElem?_getD,a];rfl
structure RecS (a:Arena) (ps:List Pair) (st:Place) (P:List Place) (i:Nat) (O:List Int) (N:List (List Int)) (Q:List Int):Prop where
 nod:P.Nodup
 zero:P[0]? =some st
 il:i<=P.length
 ol:O.length=i
 nl:N.length=i
 ql:Q.length=i
 inn:∀v∈P,VOk a.Owner.length ps.length v
 row:∀(j:Nat) v,j<i->P[j]? =some v->O[j]? =idx a.Owner v.At/\Q[j]? =some (lU ps v.Record v.At)/\∃r ar,N[j]? =some r/\idx a.Next v.At=some ar/\RowP P ar (jE ps v.Record v.At) r
theorem RecS.init {a:Arena}{ps:List Pair}{st:Place}(h:VOk a.Owner.length ps.length st):RecS a ps st [st] 0 [] [] []:=
 ⟨by simp,rfl,by simp,rfl,rfl,rfl,λv b=>by rw[zG.1 b];exact h,λj v hj=>absurd hj (Nat.not_lt_zero j)⟩
theorem RecS.step {a:Arena}{ps:List Pair}{st:Place}{P:List Place}{i:Nat}{O:List Int}{N:List (List Int)}{Q:List Int}(h:RecS a ps st P i O N Q){v:Place}(f:P[i]? =some v){ar:List Int}(har:idx a.Next v.At=some ar) (C:∀u∈ar,0<=u/\u<(a.Owner.length:Int)){o:Int}(F:idx a.Owner v.At=some o){S:List Int}
 (z:Asc S) (A:S.length=ar.length) (B:∀y,y∈S↔y∈(gB (kyR ar (jE ps v.Record v.At)) P ar.length).2):
 RecS a ps st (gB (kyR ar (jE ps v.Record v.At)) P ar.length).1 (i+1) (O++[o]) (N++[S]) (Q++[lU ps v.Record v.At]):=by
 have w:=yj z A B
 have r:=nF (kyR ar (jE ps v.Record v.At)) P ar.length
 have g:=h.inn v (bL f)
 have hn:=tx ps v.At g.rl g.rin
 have E:∀x,x<ar.length->VOk a.Owner.length ps.length (kyR ar (jE ps v.Record v.At) x):=λx hx=>by
  have hm:ar.getD x 0∈ar:=by
   rw[List.getD_eq_getElem?_getD,bI hx]
   exact List.getElem_mem hx
  obtain⟨I,J⟩:=C _ hm
  exact⟨I,J,hn.1,hn.2,tw ps v.At g.nd⟩
 generalize gB (kyR ar (jE ps v.Record v.At)) P ar.length=G at *
 have K:=(bJ.1 f).1
 have h1:=h.ol
 have k:=h.nl
 have l:=h.ql
 have L:=r.len
 refine⟨r.nod h.nod,r.pre 0 _ h.zero,by omega,by simp[h1],by simp[k],by simp[l],λu b=>?_,λj u hj b=>?_⟩
 · rcases r.mem u b with hm | ⟨x,hx,e⟩
   · exact h.inn u hm
   · rw[e];exact E x hx
 · by_cases e:j=i
   · subst e
     have d:u=v:=by
      have:=r.pre j v f
      rw[b]at this
      exact Option.some.inj this
     subst d
     refine⟨by rw[← h1,F];simp,by rw[← l];simp,S,ar,by rw[← k];simp,har,w⟩
   · have D:j<i:=by omega
     have c:P[j]? =some (P[j]'(by omega)):=bI (by omega)
     have d:u=P[j]'(by omega):=by
      have:=r.pre j _ c
      rw[b]at this
      exact Option.some.inj this
     rw[← d]at c
     obtain⟨n,p,H,m,q,s,t⟩:=h.row j u D c
     exact⟨by rw[List.getElem?_append_left (by omega)];exact n,by rw[List.getElem?_append_left (by omega)];exact p,H,m,by rw[List.getElem?_append_left (by omega)];exact q,s,t.mono r.pre⟩
structure RecG (a:Arena) (ps:List Pair) (st:Place) (P:List Place) (g:Parity):Prop where
 game:RecS a ps st P P.length g.Arena.Owner g.Arena.Next g.Prio
 le:P.length<=256
theorem RecG.ok {a:Arena}{ps:List Pair}{st:Place}{P:List Place}{g:Parity}(h:RecG a ps st P g) (ha:fx a=true) (q:∀o∈a.Owner,inR 2 o=true) (p:∀(i:Nat) row,a.Next[i]? =some row->1<=row.length/\row.length<=16) (hk:ps.length<=4):dA g=true:=by
 have hr:=h.game
 have h0:=(bJ.1 hr.zero).1
 have h1:=hr.ol
 have z:=hr.nl
 have A:=hr.ql
 have hle:=h.le
 have f:∀j:Nat,j<P.length->∃v,P[j]? =some v:=λj hj=>⟨_,bI hj⟩
 refine vX (by omega) (by omega) (by omega) (by omega) (λrow t=>?_) (λo s=>?_) λx hx=>?_
 · obtain⟨j,hj⟩:=List.getElem?_of_mem t
   have n:=(bJ.1 hj).1
   obtain⟨v,b⟩:=f j (by omega)
   obtain⟨_,_,r,ar,m,d,e⟩:=hr.row j v (by omega) b
   rw[hj]at m
   cases m
   have k:=(eI d).1
   rw[cY k]at d
   obtain⟨B,C⟩:=p _ _ d
   have hl:=e.len
   refine⟨by omega,by omega,ij.2 ⟨λy hy=>?_,e.asc⟩⟩
   obtain⟨D,u,_,w⟩:=e.to y hy
   have:=(bJ.1 w).1
   omega
 · obtain⟨j,hj⟩:=List.getElem?_of_mem s
   have n:=(bJ.1 hj).1
   obtain⟨v,b⟩:=f j (by omega)
   obtain⟨c,_⟩:=hr.row j v (by omega) b
   rw[hj]at c
   have k:=(eI c.symm).1
   rw[cY k]at c
   exact q o (bL c.symm)
 · obtain⟨j,hj⟩:=List.getElem?_of_mem hx
   have n:=(bJ.1 hj).1
   obtain⟨v,b⟩:=f j (by omega)
   obtain⟨_,l,_⟩:=hr.row j v (by omega) b
   rw[hj]at l
   cases l
   exact wX ps v.At (by have:=(hr.inn v (bL b)).rl;omega)
def firstR (k:Nat):List Int:=(List.range k).map Int.ofNat
theorem rR (k:Nat):(firstR k).Nodup:=List.Pairwise.map _ (λ_ _ a e=>a (Int.ofNat.inj e)) List.nodup_range
end Go.Proofs.YtleekpaohfpooaaGreat
set_option linter.unusedVariables false
set_option linter.unusedSimpArgs false
namespace Go.Proofs.YtleekpaohfpooaaGreat
open Go Go.Wk Go.Proofs
theorem yt (row:List Int) (v:Int):kV row v=some (decide (v∈row)):=by
 unfold kV
 rw[dt (f:=j9 row v) (r:=true) (xs:=row) (λx=> !(x==v)) rfl (λi x hx=>by
  unfold j9
  rw[bT,hx,bG]
  cases x==v <;> rfl)]
 by_cases h:v∈row
 · rw[if_neg,decide_eq_true h];rfl
   rw[List.all_eq_true]
   intro a
   have:=a v h
   simp at this
 · rw[if_pos,decide_eq_false h];rfl
   rw[List.all_eq_true]
   intro x hx
   simp only[Bool.not_eq_true',beq_eq_false_iff_ne,ne_eq]
   exact λe=>h (e ▸ hx)
theorem zp (p0 p1:List Int):iw p0 p1=some (decide (p0=p1)):=by
 unfold iw
 by_cases h:p0.length=p1.length
 · rw[show((p0.length:Int) !=(p1.length:Int))=false from by rw[h];simp,cond_false]
   rw[xE (f:=fj p0 p1) (r:=false) (λx y=>decide (x=y)) h (λi x y hx hy=>by
    unfold fj
    rw[bT,bT,hx,hy,bG,bG]
    by_cases e:x=y
    · subst e;simp
    · have a:(x==y)=false:=by simp[e]
      simp[bne,a,e])]
   rw[qE h]
   cases decide (p0=p1) <;> rfl
 · rw[show((p0.length:Int) !=(p1.length:Int))=true from by simp only[bne_iff_ne,ne_eq];omega,cond_true,decide_eq_false (λe=>h (by rw[e]))]
def qb (P:List Place) (k:Place):Int:=match locR P k with | some i=>(i:Int) | none=> -1
theorem yF (P:List Place) (u:Int) (rc:List Int):lW P u rc=some (qb P ⟨u,rc⟩):=by
 unfold lW
 rw[ee (f:=jq P u rc) (λx=>x.At==u&&x.Record==rc) (λi=>(i:Int)) (xs:=P) (λi x hx=>by
  unfold jq
  rw[bT,hx,bG]
  by_cases h1:x.At=u
  · rw[show(x.At==u)=true from by simpa using h1,cond_true,bG,zp]
    by_cases a:x.Record=rc
    · rw[decide_eq_true a,show(x.Record==rc)=true from by simpa using a];rfl
    · rw[decide_eq_false a,show(x.Record==rc)=false from by simpa using a];rfl
  · rw[show(x.At==u)=false from by simpa using h1];rfl)]
 unfold qb locR
 cases P.findIdx? (λx=>x.At==u&&x.Record==rc) <;> rfl
section
variable {ps:List Pair}{rc:List Int}(hr:∀x∈rc,0<=x/\x<(ps.length:Int)) (hl:rc.length<=1000)
include hr hl
theorem yO (v:Int):lX ps rc v=some (jE ps rc v):=by
 unfold lX
 obtain⟨s,h1,a⟩:=cJ (f:=jr ps rc v) (λj (s:List Int×List Int)=>s=((rc.take j).filter (du ps v),(rc.take j).filter λi=> !du ps v i)) rc.length (s:=([],[])) rfl (λj s hj hs=>by
  subst hs
  have hx:rc[j]? =some rc[j]:=bI hj
  generalize rc[j]=x at hx
  obtain⟨e,g⟩:=hr x (bL hx)
  obtain⟨p,hp,_⟩:=iH (xs:=ps) e g
  have b:du ps v x=decide (v∈p.Give):=by unfold du;rw[hp]
  have c:((rc.take j).filter (du ps v)).length<=1000:=Nat.le_trans (List.length_filter_le ..) (by rw[zJ];omega)
  have d:((rc.take j).filter λi=> !du ps v i).length<=1000:=Nat.le_trans (List.length_filter_le ..) (by rw[zJ];omega)
  unfold jr
  rw[bT,hx,bG,hp,bG,yt,← b,bG,zO,hx]
  simp only[Option.toList_some,List.filter_append]
  cases hc:du ps v x with
  | true=>
   simp only[cond_true,bG]
   rw[app1 (by omega) rfl]
   exact⟨_,rfl,by simp[hc]⟩
  | false=>
   simp only[cond_false,bG]
   rw[app1 (by omega) rfl]
   exact⟨_,rfl,by simp[hc]⟩)
 rw[h1,a,bG,ca,List.take_length]
 have c:(rc.filter (du ps v)).length<=1000:=Nat.le_trans (List.length_filter_le ..) hl
 have d:(rc.filter λi=> !du ps v i).length<=1000:=Nat.le_trans (List.length_filter_le ..) hl
 dsimp only
 rw[appL (by omega) rfl];rfl
theorem yS (v:Int):lY ps rc v=some (lU ps rc v):=by
 unfold lY
 obtain⟨s,h1,d⟩:=cJ (f:=js ps rc v) (λj (s:Int×Int)=>s=(dz (askI ps v) rc j,dz (du ps v) rc j)) rc.length (s:=(-1,-1)) rfl (λj s hj hs=>by
  subst hs
  have hx:rc[j]? =some rc[j]:=bI hj
  generalize rc[j]=x at hx
  obtain⟨i,k⟩:=hr x (bL hx)
  obtain⟨p,hp,_⟩:=iH (xs:=ps) i k
  have e:du ps v x=decide (v∈p.Give):=by unfold du;rw[hp]
  have ha:askI ps v x=decide (v∈p.Ask):=by unfold askI;rw[hp]
  have b:dz (askI ps v) rc (j+1)=bif askI ps v x then(j:Int) else dz (askI ps v) rc j:=by
   show(bif (match rc[j]? with | some x=>askI ps v x | none=>false) then(j:Int) else _)=_
   rw[hx]
  have c:dz (du ps v) rc (j+1)=bif du ps v x then(j:Int) else dz (du ps v) rc j:=by
   show(bif (match rc[j]? with | some x=>du ps v x | none=>false) then(j:Int) else _)=_
   rw[hx]
  refine⟨_,?_,rfl⟩
  unfold js
  simp only[bT,hx,bG,hp,yt,← e,← ha]
  rw[b,c]
  cases askI ps v x <;> cases du ps v x <;> rfl)
 rw[h1,d,bG,ca]
 have a:=kK (askI ps v) rc rc.length
 have g:=kK (du ps v) rc rc.length
 unfold lU
 dsimp only
 generalize dz (askI ps v) rc rc.length=x at *
 generalize dz (du ps v) rc rc.length=y at *
 rw[wr' (z:=2 * x) (by omega) (by omega),wr' (z:=2 * x+1) (by omega) (by omega),wr' (z:=2 * y) (by omega) (by omega),wr' (z:=2 * y+2) (by omega) (by omega)]
 cases decide (x<0) <;> cases decide (y<0) <;> cases decide (y<x) <;> rfl
end
theorem xm {xs:List Int}(hn:xs.Nodup) (hl:xs.length<=1000):∃S,ka xs=some S/\Asc S/\S.length=xs.length/\∀z,z∈S↔z∈xs:=by
 unfold ka
 obtain⟨s,h1,p,r,t⟩:=cJ (f:=gJ xs) (λj (s:List Int)=>Asc s/\s.length=j/\∀z,z∈s↔z∈xs.take j) xs.length (s:=[]) ⟨List.Pairwise.nil,rfl,λz=>by simp⟩ (λj s hj ⟨a1,a2,n⟩=>by
  have hx:xs[j]? =some xs[j]:=bI hj
  have H:=hx
  generalize hxe:xs[j]=x at hx
  have c:x∉s:=λhm=>by
   obtain⟨i,b⟩:=List.getElem?_of_mem ((n x).1 hm)
   have u:=(bJ.1 b).1
   rw[zJ]at u
   rw[List.getElem?_take,if_pos (by omega),bI (by omega)]at b
   have:=(List.pairwise_iff_getElem.1 hn) i j (by omega) hj (by omega)
   exact this ((Option.some.inj b).trans hxe.symm)
  obtain⟨o,w1,G⟩:=cZ (f:=gK xs (j:Int) s) (λq (k:Int)=>∃m:Nat,k=(m:Int)/\m+q=s.length/\∀(i:Nat) y,m<=i->s[i]? =some y->x<y) (λ_=>False) (λk=>∃m:Nat,k=(m:Int)/\m<=s.length/\(∀(i:Nat) y,m<=i->s[i]? =some y->x<y)/\∀(i:Nat) y,i<m->s[i]? =some y->y<x) s.length (λq k ⟨m,e,hm,b⟩=>by
   subst e
   unfold gK
   by_cases h0:0<m
   · have hy:s[m-1]? =some (s[m-1]'(by omega)):=bI (by omega)
     generalize s[m-1]'(by omega)=y at hy
     have w:IntKind.i64.wrap ((m:Int)-1)=((m-1:Nat):Int):=by rw[wr' (by omega) (by omega)];omega
     rw[decide_eq_true (show(0:Int)<(m:Int) by omega),cond_true,w,bT,hy,bG,bT,hx,bG,bG]
     by_cases l:x<y
     · rw[decide_eq_true l,cond_true]
       refine⟨_,rfl,by omega,m-1,rfl,by omega,λi z g a=>?_⟩
       by_cases e:i=m-1
       · subst e
         rw[hy]at a
         cases a
         exact l
       · exact b i z (by omega) a
     · rw[decide_eq_false l,cond_false]
       refine⟨_,rfl,m,rfl,by omega,b,λi z g a=>?_⟩
       have A:y<x:=by
        have:y≠x:=λe=>c (e ▸ bL hy)
        omega
       by_cases e:i=m-1
       · subst e
         rw[hy]at a
         cases a
         exact A
       · have:=rO a1 a hy (by omega)
         omega
   · have v:m=0:=by omega
     subst v
     rw[decide_eq_false (show ¬(0:Int)<((0:Nat):Int) by omega),cond_false,bG,cond_false]
     exact⟨_,rfl,0,rfl,by omega,b,λi z g _=>absurd g (Nat.not_lt_zero i)⟩) (2 ^ 64) 0 (s.length:Int) (by omega) ⟨s.length,rfl,by omega,λi y b hy=>by
     have:=(bJ.1 hy).1
     omega⟩ (by omega)
  match o,G with
  | .inr k,⟨m,e,B,C,D⟩=>
   subst e
   unfold gJ
   have E:subS s 0 (m:Int)=some (s.take m):=by
    unfold subS
    rw[if_pos ⟨by omega,by omega,by omega⟩]
    simp
   have F:subS s (m:Int) (s.length:Int)=some (s.drop m):=by
    unfold subS
    rw[if_pos ⟨by omega,by omega,by omega⟩]
    simp
   have I:(s.take m).length<=1000:=by rw[zJ];omega
   have J:(s.drop m).length<=1000:=by rw[List.length_drop];omega
   rw[w1,bG,ca,E,bG,appL (by simp;omega) rfl,bG,bT,hx,bG,List.nil_append,app1 (by omega) rfl,bG,F,bG,appL (by rw[zF];simp only[zI,zK];omega) rfl,bG]
   have d:(s.take m++[x])++s.drop m=ins x s:=by
    rw[List.append_assoc]
    exact ve a1 c B D (λz a=>C m z (Nat.le_refl _) a)
   refine⟨_,rfl,?_,?_,λz=>?_⟩
   · rw[d];exact pz a1
   · rw[d,uk c a1,a2]
   · rw[d,pA c,n,zO,hx]
     simp only[Option.toList_some,zN,zG]
     constructor
     · rintro(h | h)
       · exact .inr h
       · exact .inl h
     · rintro(h | h)
       · exact .inr h
       · exact .inl h)
 rw[h1,bG,ca]
 exact⟨s,rfl,p,r,λz=>by rw[t,List.take_length]⟩
theorem ur {P:List Place}{k:Place}:(qb P k<0->addR P k=P++[k]/\atR P k=(P.length:Int))/\(¬qb P k<0->addR P k=P/\atR P k=qb P k):=by
 unfold qb addR atR
 cases locR P k with
 | none=>exact⟨λ_=>⟨rfl,rfl⟩,λh=>absurd (by show(-1:Int)<0;omega) h⟩
 | some i=>exact⟨λh=>absurd h (by show ¬((i:Int)<0);omega),λ_=>⟨rfl,rfl⟩⟩
theorem wc (a:Nat->Place) (K:List Place):∀{i j:Nat},i<=j->(gB a K i).1.length<=(gB a K j).1.length:=by
 intro i j h
 induction h with
 | refl=>exact Nat.le_refl _
 | step h b=>
  refine Nat.le_trans b ?_
  show _<=(addR _ _).length
  exact(sW _ _).1
end Go.Proofs.YtleekpaohfpooaaGreat
set_option linter.unusedVariables false
set_option linter.unusedSimpArgs false
namespace Go.Proofs.YtleekpaohfpooaaGreat
open Go Go.Wk Go.Proofs
def noRec:Parity×List Place×Bool:=(⟨⟨[],[]⟩,[]⟩,[],false)
section
variable {a:Arena}{v:Place}{ar rc:List Int}{P:List Place}(har:idx a.Next v.At=some ar) (hal:ar.length<=16) (hrl:rc.length<=4)
include har hal hrl
theorem zn (l:P.length<=256):∃o,cu (fU a v rc) (2 ^ 64) (P,[],0)=some o/\(match o with
 | .inl r=>r=noRec/\256<(gB (kyR ar rc) P ar.length).1.length
 | .inr s=>s.1=(gB (kyR ar rc) P ar.length).1/\s.2.1=(gB (kyR ar rc) P ar.length).2/\(gB (kyR ar rc) P ar.length).1.length<=256):=by
 obtain⟨o,w1,t⟩:=cZ (f:=fU a v rc) (λj (s:List Place×List Int×Int)=>s=((gB (kyR ar rc) P j).1,(gB (kyR ar rc) P j).2,(j:Int))/\j<=ar.length/\(gB (kyR ar rc) P j).1.length<=256) (λr=>r=noRec/\256<(gB (kyR ar rc) P ar.length).1.length)
  (λs=>s.1=(gB (kyR ar rc) P ar.length).1/\s.2.1=(gB (kyR ar rc) P ar.length).2/\(gB (kyR ar rc) P ar.length).1.length<=256) ar.length (λj s ⟨e,hj,hle⟩=>by
  subst e
  have q:=nF (kyR ar rc) P j
  have w:=q.rl
  unfold fU
  dsimp only
  rw[har,bG]
  by_cases m:j<ar.length
  · have hx:ar[j]? =some ar[j]:=bI m
    have g:kyR ar rc j=⟨ar[j],rc⟩:=by unfold kyR;rw[List.getD_eq_getElem?_getD,hx];rfl
    generalize ar[j]=u at hx g
    obtain⟨n,p⟩:=ur (P:=(gB (kyR ar rc) P j).1) (k:=kyR ar rc j)
    have c:gB (kyR ar rc) P (j+1)=(addR (gB (kyR ar rc) P j).1 (kyR ar rc j),(gB (kyR ar rc) P j).2++[atR (gB (kyR ar rc) P j).1 (kyR ar rc j)]):=rfl
    have hm:=wc (kyR ar rc) P (show j+1<=ar.length by omega)
    rw[decide_eq_true (show(j:Int)<(ar.length:Int) by omega),cond_true,bG,bT,hx,bG,yF,← g,bG]
    by_cases hc:qb (gB (kyR ar rc) P j).1 (kyR ar rc j)<0
    · obtain⟨b,d⟩:=n hc
      rw[c,b]at hm
      simp only[zF,zI,zK]at hm
      by_cases i:(256:Int)<=((gB (kyR ar rc) P j).1.length:Int)
      · rw[decide_eq_true hc,cond_true,decide_eq_true i,cond_true]
        exact⟨_,rfl,rfl,by omega⟩
      · rw[decide_eq_true hc,cond_true,decide_eq_false i,cond_false,appL (by simp;omega) rfl,bG,List.nil_append,app1 (by omega) rfl,bG,bG,ca]
        dsimp only
        rw[app1 (by omega) rfl,bG,wr' (by omega) (by omega)]
        refine⟨_,rfl,by omega,?_,by omega,?_⟩
        · rw[c,b,d,← g];rfl
        · rw[c,b,zF];simp only[zI,zK];omega
    · obtain⟨b,d⟩:=p hc
      rw[decide_eq_false hc,cond_false,bG,ca]
      dsimp only
      rw[app1 (by omega) rfl,bG,wr' (by omega) (by omega)]
      refine⟨_,rfl,by omega,?_,by omega,?_⟩
      · rw[c,b,d];rfl
      · rw[c,b];exact hle
  · have:j=ar.length:=by omega
    subst this
    rw[decide_eq_false (show ¬((ar.length:Nat):Int)<(ar.length:Int) by omega),cond_false]
    exact⟨_,rfl,rfl,rfl,hle⟩) (2 ^ 64) 0 (P,[],0) (by omega) ⟨rfl,Nat.zero_le _,l⟩ (by omega)
 exact⟨o,w1,by
  match o,t with
  | .inl r,h=>exact h
  | .inr s,h=>exact h⟩
end
end Go.Proofs.YtleekpaohfpooaaGreat
set_option linter.unusedVariables false
set_option linter.unusedSimpArgs false
namespace Go.Proofs.YtleekpaohfpooaaGreat
open Go Go.Wk Go.Proofs
theorem rN {a:Arena}(ha:fx a=true):dA ⟨a,bK a.Owner.length 0⟩=true:=by
 unfold dA
 dsimp only
 rw[ha,List.length_replicate,beq_self_eq_true,Bool.true_and,Bool.true_and,List.all_eq_true]
 intro x hx
 rw[(List.mem_replicate.1 hx).2];rfl
theorem qX {a:Arena}(ha:fx a=true):1<=a.Owner.length/\a.Owner.length<=256/\(∀(i:Nat) row,a.Next[i]? =some row->1<=row.length/\row.length<=16)/\(∀o∈a.Owner,inR 2 o=true) /\
 ∀v:Int,0<=v->v<(a.Owner.length:Int)->∃ar o,idx a.Next v=some ar/\idx a.Owner v=some o/\1<=ar.length/\ar.length<=16/\Asc ar/\∀u∈ar,0<=u/\u<(a.Owner.length:Int):=by
 have hp:=rN ha
 obtain⟨h1,d,f,_,b⟩:=fS hp
 dsimp only at h1 d f b
 refine⟨h1,d,λi row hr=>⟨(b i row hr).1,(b i row hr).2.1⟩,(qm hp).1,λv c p=>?_⟩
 obtain⟨ar,har,_⟩:=iH (xs:=a.Next) c (by omega)
 obtain⟨o,g,_⟩:=iH (xs:=a.Owner) c p
 have e:=har
 rw[cY c]at e
 obtain⟨j,k,l⟩:=b _ ar e
 obtain⟨m,n⟩:=ij.1 l
 exact⟨ar,o,har,g,j,k,n,m⟩
def ManyP (n k:Nat):Prop:=∃P:List Place,256<P.length/\P.Nodup/\∀v∈P,VOk n k v
section
variable {a:Arena}{ps:List Pair}{st:Place}(ha:fx a=true) (hk:ps.length<=4)
include ha hk
end
theorem xF (k:Nat):cntM eK k 0 []=some (.inr (firstR k))\/1000<k:=by
 by_cases hk:1000<k
 · exact .inr hk
 · obtain⟨s,h1,a⟩:=cJ (f:=eK) (λj s=>s=firstR j) k (s:=[]) rfl (λj s hj e=>by
    subst e
    unfold eK
    rw[app1 (by unfold firstR;rw[zQ,List.length_range];omega) rfl]
    exact⟨_,rfl,by unfold firstR;rw[List.range_succ,List.map_append];rfl⟩)
   exact .inl (by rw[h1,a])
end Go.Proofs.YtleekpaohfpooaaGreat
set_option linter.unusedVariables false
set_option linter.unusedSimpArgs false
namespace Go.Proofs.YtleekpaohfpooaaGreat
open Go Go.Wk Go.Proofs
end Go.Proofs.YtleekpaohfpooaaGreat
set_option linter.unusedVariables false
set_option linter.unusedSimpArgs false
namespace Go.Proofs.YtleekpaohfpooaaGreat
open Go Go.Wk Go.Proofs
theorem m0 {p:Sig}(hs:sigOk p=true){x o:Int}(e:0<=x) (f:x<pw p.In) (a:0<=o) (d:o<pw p.Out):jK p x o=some (o * pw p.In+x):=by
 have j:=eR p.In
 have k:=eR p.Out
 obtain⟨b,c⟩:=dN hs
 have g:0<=o * pw p.In:=Int.mul_nonneg a (by omega)
 have i:o * pw p.In<=4 * 4:=Int.mul_le_mul (by omega) (by omega) (by omega) (by omega)
 unfold jK
 simp only[dE,hs,bG,sh,cond_false,dc b,dc c]
 rw[wr' (z:=pw p.In-1) (by omega) (by omega),wr' (z:=pw p.Out-1) (by omega) (by omega),wr' (z:=o * pw p.In) (by omega) (by omega),wr' (by omega) (by omega)]
 simp only[dj,vd,bG,dv.2 ⟨e,f⟩,dv.2 ⟨a,d⟩,sh,cond_false]
end Go.Proofs.YtleekpaohfpooaaGreat
set_option linter.unusedVariables false
set_option linter.unusedSimpArgs false
namespace Go.Proofs.YtleekpaohfpooaaGreat
open Go Go.Wk Go.Proofs
theorem jR {p:Sig}(hs:sigOk p=true):gk p=some (pw p.In):=by
 obtain⟨a,_⟩:=dN hs
 unfold gk
 rw[(py a).1,bG,(py a).2]
end Go.Proofs.YtleekpaohfpooaaGreat
set_option linter.unusedVariables false
set_option linter.unusedSimpArgs false
namespace Go.Proofs.YtleekpaohfpooaaGreat
open Go Go.Wk Go.Proofs
theorem oa:∀{xs ys:List Int},xs.Nodup->(∀x∈xs,x∈ys)->xs.length<=ys.length
 | [],_,_,_=>Nat.zero_le _
 | x::xs,ys,hn,h=>by
  obtain⟨h1,b⟩:=List.nodup_cons.1 hn
  have hx:=h x (List.mem_cons_self ..)
  have:=oa (ys:=ys.erase x) b λz a=>(List.mem_erase_of_ne (λe=>h1 (by rw[← e];exact a))).2 (h z (List.mem_cons_of_mem _ a))
  have c:=List.length_pos_of_mem hx
  rw[List.length_erase_of_mem hx]at this
  simp only[zI]
  omega
theorem yE {m q c i d:Nat}(hi:i<m) (g:d<m) (h:q * m+i=c * m+d):q=c/\i=d:=by
 have e:∀{a b:Nat},a<b->a * m+m<=b * m:=λ{a b} h=>by
  have:=Nat.mul_le_mul_right m (show a+1<=b by omega)
  rwa [Nat.add_mul,Nat.one_mul]at this
 by_cases h1:q<c
 · have:=e h1;omega
 · by_cases f:c<q
   · have:=e f;omega
   · have:q=c:=by omega
     subst this
     exact⟨rfl,by omega⟩
theorem ra {n m q i:Nat}(a:q<n) (hi:i<m):q * m+i<n * m:=by
 have:=Nat.mul_le_mul_right m (show q+1<=n by omega)
 rw[Nat.add_mul,Nat.one_mul]at this
 omega
def SuccR (d:Det) (m k q i:Nat) (r:List Int):Prop:=Asc r/\∀z,z∈r↔∃o:Nat,o<k/\z=tab d.Next q ((o * m+i:Nat):Int)
theorem SuccR.uniq {d:Det}{m k q i:Nat}{r r':List Int}(h:SuccR d m k q i r) (a:SuccR d m k q i r'):r=r':=nW h.1 a.1 λz=>by rw[h.2,a.2]
def rowQ (n m q:Nat):List Int:=(List.range m).map λi=>((n+q * m+i:Nat):Int)
structure ConA (d:Det) (n m k:Nat) (A:Arena):Prop where
 ol:A.Owner=bK n 1++bK (n * m) 0
 nl:A.Next.length=n+n * m
 r1:∀q:Nat,q<n->A.Next[q]? =some (rowQ n m q)
 r0:∀q i:Nat,q<n->i<m->∃r,A.Next[n+(q * m+i)]? =some r/\SuccR d m k q i r
section
variable {d:Det}{n m k:Nat}(hn:n<=48) (hn1:1<=n) (hm1:1<=m) (hm:m<=4) (hk1:1<=k) (hk:k<=4) (hd:d.Next.length=n) (hD:∀row∈d.Next,RowIn (n:Int) ((m * k:Nat):Int) row)
include hn hn1 hm1 hm hk1 hk hd hD
omit hn hn1 hk1 hk in
theorem pP {q i o:Nat}(c:q<n) (hi:i<m) (a:o<k):∃row,idx d.Next (q:Int)=some row/\idx row ((o * m+i:Nat):Int)=some (tab d.Next q ((o * m+i:Nat):Int))/\0<=tab d.Next q ((o * m+i:Nat):Int)/\tab d.Next q ((o * m+i:Nat):Int)<(n:Int):=by
 have h1:=ra (n:=k) a hi
 have b:k * m=m * k:=Nat.mul_comm _ _
 exact iL hD (by omega) (by omega) (by omega) (by omega)
theorem yC {A:Arena}(h:ConA d n m k A):fx A=true:=by
 have D:n * m<=48 * 4:=Nat.mul_le_mul hn hm
 have E:A.Owner.length=n+n * m:=by rw[h.ol];simp
 have C:=h.nl
 unfold fx
 simp only[n6,decide_eq_true_eq,beq_iff_eq]
 refine⟨⟨⟨by omega,by omega⟩,by omega⟩,?_⟩
 rw[List.all_eq_true]
 rintro⟨row,j⟩ hx
 have hx:=List.mem_zipIdx_iff_getElem?.1 hx
 dsimp only at hx ⊢
 have y:=(bJ.1 hx).1
 unfold vertOk
 by_cases hj:j<n
 · have c:A.Owner[j]? =some 1:=by
    rw[h.ol,List.getElem?_append_left (by simpa using hj),gs,if_pos hj]
   rw[h.r1 j hj]at hx
   cases hx
   have hl:(rowQ n m j).length=m:=by unfold rowQ;rw[zQ,List.length_range]
   have hs:dB (A.Owner.length:Int) (rowQ n m j)=true:=by
    refine ij.2 ⟨λx hx=>?_,?_⟩
    · unfold rowQ at hx
      obtain⟨i,f,e⟩:=List.mem_map.1 hx
      have:=List.mem_range.1 f
      have:=ra (n:=n) (m:=m) hj this
      omega
    · unfold rowQ
      refine List.pairwise_map.2 (List.Pairwise.imp (λ{a b} w=>?_) List.pairwise_lt_range)
      omega
   rw[c,hs,hl]
   simp only[Bool.and_true,n6,decide_eq_true_eq]
   exact⟨⟨by decide,by omega⟩,by omega⟩
 · have l:j-n<n * m:=by omega
   have p:(j-n) / m<n:=(Nat.div_lt_iff_lt_mul (by omega)).2 l
   have f:(j-n) % m<m:=Nat.mod_lt _ (by omega)
   have e:(j-n) / m * m+(j-n) % m=j-n:=by rw[Nat.mul_comm];exact Nat.div_add_mod _ _
   obtain⟨r,q,s,g⟩:=h.r0 _ _ p f
   rw[e,show n+(j-n)=j by omega,hx]at q
   cases q
   have c:A.Owner[j]? =some 0:=by
    rw[h.ol,List.getElem?_append_right (by simp;omega),List.length_replicate,gs,if_pos l]
   have u:∀x∈row,0<=x/\x<(n:Int):=λx hx=>by
    obtain⟨o,c,e⟩:=(g x).1 hx
    obtain⟨_,_,_,a,b⟩:=pP hm1 hm hd hD p f c
    rw[e];exact⟨a,b⟩
   have hs:dB (A.Owner.length:Int) row=true:=ij.2 ⟨λx hx=>by have:=u x hx;omega,s⟩
   have B:1<=row.length:=List.length_pos_of_mem ((g _).2 ⟨0,by omega,rfl⟩)
   have hle:row.length<=k:=by
    -- each is one of k
    have t:=oa (ys:=(List.range k).map λo=>tab d.Next ((j-n) / m:Nat) ((o * m+(j-n) % m:Nat):Int)) (iN s) λz v=>by
     obtain⟨o,c,e⟩:=(g z).1 v
     exact List.mem_map.2 ⟨o,List.mem_range.2 c,e.symm⟩
    rwa [zQ,List.length_range]at t
   rw[c,hs]
   simp only[Bool.and_true,n6,decide_eq_true_eq]
   exact⟨⟨by decide,by omega⟩,by omega⟩
end
end Go.Proofs.YtleekpaohfpooaaGreat
set_option linter.unusedVariables false
set_option linter.unusedSimpArgs false
namespace Go.Proofs.YtleekpaohfpooaaGreat
open Go Go.Wk Go.Proofs
theorem nc {p:Sig}(hs:sigOk p=true):ec p=some (pw p.In):=by
 unfold ec
 rw[dc (dN hs).1];rfl
section
variable {p:Sig}{d:Det}(hs:sigOk p=true){n m k:Nat}(hn:n<=48) (hn1:1<=n) (hm:pw p.In=(m:Int)) (hk:pw p.Out=(k:Int)) (hd:d.Next.length=n) (hD:∀row∈d.Next,RowIn (n:Int) ((m * k:Nat):Int) row)
include hs hn hm hk hd hD
omit hn in
theorem yn {q i:Nat}(v:q<n) (hi:i<m):∃r,kX p d q i=some r/\SuccR d m k q i r:=by
 have F:=eR p.In
 have k1:=eR p.Out
 unfold kX
 obtain⟨o,w1,D⟩:=cZ (f:=iC p d q i) (λj (s:List Int×Int)=>s.2=(j:Int)/\j<=k/\Asc s.1/\s.1.length<=j/\∀z,z∈s.1↔∃o:Nat,o<j/\z=tab d.Next q ((o * m+i:Nat):Int)) (λ_=>False) (λs=>SuccR d m k q i s.1) k (λj s ⟨c,hj,a1,a2,b⟩=>by
  obtain⟨xs,o⟩:=s
  dsimp only at c a1 a2 b
  subst c
  unfold iC
  rw[dc (dN hs).2,bG,hk]
  dsimp only
  by_cases u:j<k
  · obtain⟨row,A,B,_⟩:=pP (d:=d) (k:=k) (by omega) (by omega) hd hD v hi u
    obtain⟨R,C,l,t⟩:=wH a1 (tab d.Next q ((j * m+i:Nat):Int)) (by omega)
    have g:=m0 hs (x:=(i:Int)) (o:=(j:Int)) (by omega) (by omega) (by omega) (by omega)
    have e:(j:Int) * (m:Int)+(i:Int)=((j * m+i:Nat):Int):=by simp
    rw[hm,e]at g
    rw[decide_eq_true (show(j:Int)<(k:Int) by omega),cond_true,A,bG,g,bG,B,bG,C,bG,wr' (by omega) (by omega)]
    have E:R.length<=xs.length+1:=oa (ys:=tab d.Next q ((j * m+i:Nat):Int)::xs) (iN l) λz w=>by
     rcases(t z).1 w with h | h
     · rw[h];exact List.mem_cons_self ..
     · exact List.mem_cons_of_mem _ h
    refine⟨_,rfl,by omega,by dsimp only;omega,by omega,l,by dsimp only;omega,λz=>?_⟩
    dsimp only
    rw[t,b]
    constructor
    · rintro(h | ⟨o,y,a⟩)
      · exact⟨j,by omega,h⟩
      · exact⟨o,by omega,a⟩
    · rintro⟨o,y,a⟩
      by_cases e:o=j
      · subst e;exact .inl a
      · exact .inr ⟨o,by omega,a⟩
  · have:j=k:=by omega
    subst this
    rw[decide_eq_false (show ¬((j:Nat):Int)<(j:Int) by omega),cond_false]
    exact⟨_,rfl,a1,b⟩) (2 ^ 64) 0 ([],0) (by omega) ⟨rfl,Nat.zero_le _,List.Pairwise.nil,Nat.le_refl _,λz=>by simp⟩ (by omega)
 match o,D with
 | .inr s,h=>rw[w1];exact⟨s.1,rfl,h⟩
def ConR (d:Det) (n m k c:Nat) (s:List Int×List (List Int)):Prop:=s.1=bK n 1++bK c 0/\∃R,s.2=(List.range n).map (rowQ n m)++R/\R.length=c/\∀q i:Nat,q<n->i<m->q * m+i<c->∃r,R[q * m+i]? =some r/\SuccR d m k q i r
end
end Go.Proofs.YtleekpaohfpooaaGreat
