/- The reference's attractor, whole. -/
import Derived.Test.YtleekpaohfpooaaGreatL0FW
set_option linter.unusedVariables false
set_option linter.unusedSimpArgs false
open Option renaming bind → bH, bind_some → bI
open List renaming getElem?_eq_getElem → bJ, getElem?_eq_some_iff → bK, replicate → bO, mem_of_getElem? → bQ, getElem?_replicate → hV, length_append → z5, mem_singleton → z6, length_cons → z8, length_take → z9, length_nil → Aa, getElem?_eq_none → Ac, mem_append → Ad, take_add_one → Ae, length_map → Ah
open Bool renaming and_eq_true → sh, not_true → zZ, eq_iff_iff → Ab
namespace Go.Proofs.YtleekpaohfpooaaGreat
open Go Go.Wk Go.Proofs
def gS (x:l7Game):Par.Gm:=mkG (rowS x) (ownL x.owner) (priL x.prio)
theorem qd {α:Type}{xs:List α}{j:Nat}{y:α}(h:xs[j]? =some y):xs.take (j+1)=xs.take j++[y]:=by rw[Ae,h];rfl
theorem uj {xs:List Int}{j:Nat}{y:Int}(hn:xs.Nodup) (h:xs[j]? =some y):y∉xs.take j:=by
 have h2:=hn.sublist (List.take_sublist (j+1) xs)
 rw[qd h,List.nodup_append]at h2
 exact λhm=>h2.2.2 y hm y (by simp) rfl
section
variable {x:l7Game}{n:Nat}(wf:WfS x n){B:List Bool}(hB:B.length=n)
include wf hB
omit wf in
theorem sE {p:Bool}{goal:Int->Prop}{Q:List Int}(h:Cert (rowS x) (ownL x.owner) (In B) p goal Q):Q.length<=n:=dP n Q h.nd λv a=>l9 hB (h.mem v a)
theorem uz {goal:List Bool}(W:goal.length=n){p:Bool}(O:Par.NoDead (gS x) (In B)):∃Q out left,cntM (eu x B goal) B.length 0 ([],bO n false,bO n 0)=some (.inr (Q,out,left)) /\
 Cert (rowS x) (ownL x.owner) (In B) p (In goal) Q/\(∀v,In B v->In goal v->v∈Q)/\Trap (rowS x) (ownL x.owner) (In B) p Q (λ_ y=>y∈([]:List Int)) /\
 (out.length=n/\∀v:Int,0<=v->v<n->idx out v=some (decide (v∈Q)))/\(left.length=n/\∀w,In B w->w∉Q->idx left w=some (lf (rowS x w) (In B) (λy=>y∈([]:List Int)):Int)):=by
 have hn:=wf.n256
 obtain⟨s,h1,h2⟩:=cv (f:=eu x B goal) (λj (s:List Int×List Bool×List Int)=>s.1.Nodup/\(∀v,v∈s.1↔v<(j:Int)/\In B v/\In goal v) /\
  (s.2.1.length=n/\∀v:Int,0<=v->v<n->idx s.2.1 v=some (decide (v∈s.1)))/\(s.2.2.length=n/\∀w:Int,w<(j:Int)->In B w->idx s.2.2 w=some (lf (rowS x w) (In B) (λ_=>False):Int))) B.length (s:=([],bO n false,bO n 0))
  ⟨by simp,λv=>⟨λh=>by simp at h,λ⟨h,hb,_⟩=>by have:=(l9 hB hb).1;omega⟩,⟨by simp,λv H L=>by
   rw[cz H,hV,if_pos (by omega)];simp⟩,⟨by simp,λw A hb=>by have:=(l9 hB hb).1;omega⟩⟩ (λj s hj ⟨r,m,o,l⟩=>by
  obtain⟨Q,out,left⟩:=s
  dsimp only at r m o l
  rw[hB]at hj
  obtain⟨b,hb⟩:=cF (xs:=B) (i:=(j:Int)) (by omega) (by omega)
  obtain⟨g,D⟩:=cF (xs:=goal) (i:=(j:Int)) (by omega) (by omega)
  have Y:Q.length<=n:=dP n Q r λv z=>l9 hB ((m v).1 z).2.1
  have S:(j:Int)∉Q:=λh=>by have:=((m _).1 h).1;omega
  have Z:=yD (row:=rowS x (j:Int)) (inn:=In B) (d:=λ_=>False)
  have X:=(rT wf (j:Int)).2.1
  obtain⟨V,hs,ab⟩:=dy (xs:=left) (i:=(j:Int)) (lf (rowS x (j:Int)) (In B) (λ_=>False):Int) (by omega) (by omega)
  obtain⟨ae,K,ac⟩:=dy (xs:=out) (i:=(j:Int)) true (by omega) (by omega)
  obtain⟨ad,T⟩:=cF (xs:=left) (i:=(j:Int)) (by omega) (by omega)
  unfold eu
  dsimp only
  simp only[hb,bI,D,andE,xj wf hB (show 0<=(j:Int) by omega) (show(j:Int)<n by omega),hs,K,T,o.2 (j:Int) (by omega) (by omega),app1 (show Q.length<=10000000000 by omega) (show Nat.ble 8 1024=true from rfl)]
  have G:∀(F:List Int),F=(bif b then V else left)->(F.length=n/\∀w:Int,w<((j+1:Nat):Int)->In B w->idx F w=some (lf (rowS x w) (In B) (λ_=>False):Int)):=λF e=>by
   subst e
   cases b with
   | true=>
    refine⟨by dsimp only[cond_true];omega,λw A t=>?_⟩
    dsimp only[cond_true]
    rw[dq hs]
    by_cases e:w=(j:Int)
    · rw[if_pos e,e]
    · rw[if_neg e];exact l.2 w (by omega) t
   | false=>
    refine⟨l.1,λw A t=>?_⟩
    by_cases e:w=(j:Int)
    · subst e;unfold In at t;rw[hb]at t;cases t
    · exact l.2 w (by omega) t
  have J:In B (j:Int)↔b=true:=by unfold In;rw[hb];simp
  have I:In goal (j:Int)↔g=true:=by unfold In;rw[D];simp
  cases C:(b&&g) with
  | true=>
   have P:b=true:=by revert C;cases b <;> simp
   have R:g=true:=by revert C;cases b <;> simp
   subst P R
   simp only[cond_true,bI]
   refine⟨_,rfl,?_,?_,⟨by dsimp only;omega,?_⟩,G _ rfl⟩
   · dsimp only
     rw[List.nodup_append]
     exact⟨r,by simp,λa ha c hc=>by simp at hc;subst hc;exact λe=>S (e ▸ ha)⟩
   · intro v
     dsimp only
     rw[Ad,z6,m v]
     constructor
     · rintro(⟨h1,h2,q⟩ | rfl)
       · exact⟨by omega,h2,q⟩
       · exact⟨by omega,J.2 rfl,I.2 rfl⟩
     · rintro⟨h1,h2,q⟩
       by_cases e:v=(j:Int)
       · exact .inr e
       · exact .inl ⟨by omega,h2,q⟩
   · intro v H L
     dsimp only
     rw[dq K]
     by_cases e:v=(j:Int)
     · subst e;simp
     · rw[if_neg e,o.2 v H L];simp[e]
  | false=>
   have E:∀v,v∈Q↔v<((j+1:Nat):Int)/\In B v/\In goal v:=λv=>by
    rw[m v]
    constructor
    · rintro⟨h1,h2,q⟩;exact⟨by omega,h2,q⟩
    · rintro⟨h1,h2,q⟩
      refine⟨?_,h2,q⟩
      have:v≠(j:Int):=λe=>by
       subst e
       rw[J.1 h2,I.1 q]at C
       cases C
      omega
   cases b with
   | true=>
    simp only[cond_true,cond_false,bI]
    exact⟨_,rfl,r,E,o,G _ rfl⟩
   | false=>
    simp only[cond_false,bI]
    exact⟨_,rfl,r,E,o,G _ rfl⟩)
 obtain⟨Q,out,left⟩:=s
 obtain⟨r,m,o,l⟩:=h2
 dsimp only at r m o l
 have U:∀w,lf (rowS x w) (In B) (λy=>y∈([]:List Int))=lf (rowS x w) (In B) (λ_=>False):=λw=>iu λy _ _=>by simp
 refine⟨Q,out,left,h1,⟨r,λv z=>((m v).1 z).2.1,λk v hk=> .inl ((m v).1 (bQ hk)).2.2⟩,λv hb D=>(m v).2 ⟨by have:=l9 hB hb;omega,hb,D⟩,λv z E=>⟨λ_ y _ _ h=>by simp at h,λaa=>?_⟩,o,l.1,λw A E=>?_⟩
 · obtain⟨u,M,N⟩:=O v z
   exact⟨u,M,N,by simp⟩
 · rw[U];exact l.2 w (by have:=l9 hB A;omega) A
theorem xg {goal:List Bool}(W:goal.length=n) (p:Bool) (X:Par.NoDead (gS x) (In B)):∃A,ie x B (b2i p) goal=some A/\A.length=n/\Par.IsAttr (gS x) (In B) p (In goal) (In A):=by
 have hn:=wf.n256
 obtain⟨Q0,ap,am,S,ae,af,ag,ah,ai⟩:=uz wf hB W (p:=p) X
 unfold ie
 rw[hB,dD (by omega) rfl,bI,dD (by omega) rfl,bI]
 rw[hB]at S
 rw[S,bI,bV]
 dsimp only
 obtain⟨o,w1,ay⟩:=cC (f:=fP x B (b2i p)) (λj (s:List Int×Int×List Bool×List Int)=>s.2.1=(j:Int)/\j<=s.1.length/\Cert (rowS x) (ownL x.owner) (In B) p (In goal) s.1/\(∀v,In B v->In goal v->v∈s.1)/\Trap (rowS x) (ownL x.owner) (In B) p s.1 (λ_ y=>y∈s.1.take j) /\
  (s.2.2.1.length=n/\∀v:Int,0<=v->v<n->idx s.2.2.1 v=some (decide (v∈s.1)))/\(s.2.2.2.length=n/\∀w,In B w->w∉s.1->idx s.2.2.2 w=some (lf (rowS x w) (In B) (λy=>y∈s.1.take j):Int))) (λ_=>False)
  (λs=>∃Q,Cert (rowS x) (ownL x.owner) (In B) p (In goal) Q/\(∀v,In B v->In goal v->v∈Q)/\Trap (rowS x) (ownL x.owner) (In B) p Q (λ_ y=>y∈Q)/\(s.2.2.1.length=n/\∀v:Int,0<=v->v<n->idx s.2.2.1 v=some (decide (v∈Q)))) n (λj s ⟨a1,a2,c,D,l,E,F⟩=>by
  obtain⟨Q,i,out,left⟩:=s
  dsimp only at a1 a2 c D l E F
  subst a1
  have aA:=sE hB c
  unfold fP
  dsimp only
  by_cases N:(j:Int)<(Q.length:Int)
  · have hjl:j<Q.length:=by omega
    have b:Q[j]? =some Q[j]:=bJ hjl
    have t:Q=Q.take j++Q[j]::Q.drop (j+1):=by rw[← List.drop_eq_getElem_cons hjl,List.take_append_drop]
    generalize Q[j]=u at b t
    obtain⟨au,av⟩:=l9 hB (c.mem u (bQ b))
    obtain⟨P,I⟩:=cF (xs:=x.prev) au (by rw[wf.lv];exact av)
    obtain⟨aq,aD,ar⟩:=wf.prev u P I
    simp only[N,decide_true,cond_true,bS,b,bI]
    have ab:Mid (rowS x) (ownL x.owner) (In B) p (In goal) (Q.take j) u [] Q:=by
     have:=Mid.first (T:=Q.take j) (u:=u) (R:=Q.drop (j+1)) (t ▸ c) (t ▸ l)
     rwa [← t]at this
    obtain⟨an,K,ax⟩:=cC (f:=dR x B (b2i p) u) (λk (s:List Int×Int×List Bool×List Int)=>s.2.1=(k:Int)/\k<=P.length/\Mid (rowS x) (ownL x.owner) (In B) p (In goal) (Q.take j) u (P.take k) s.1 /\
     (s.2.2.1.length=n/\∀v:Int,0<=v->v<n->idx s.2.2.1 v=some (decide (v∈s.1)))/\(s.2.2.2.length=n/\∀w,In B w->w∉s.1->idx s.2.2.2 w=some (lf (rowS x w) (In B) (dn (Q.take j) u (P.take k) w):Int))/\(∀v∈Q,v∈s.1)) (λ_=>False)
     (λs=>Mid (rowS x) (ownL x.owner) (In B) p (In goal) (Q.take j) u P s.1/\(s.2.2.1.length=n/\∀v:Int,0<=v->v<n->idx s.2.2.1 v=some (decide (v∈s.1)))/\(s.2.2.2.length=n/\∀w,In B w->w∉s.1->idx s.2.2.2 w=some (lf (rowS x w) (In B) (dn (Q.take j) u P w):Int))/\(∀v∈Q,v∈s.1)) P.length (λk s ⟨L,U,d,G,m,H⟩=>by
     obtain⟨Q',ad,ao,al⟩:=s
     dsimp only at L U d G m H
     subst L
     by_cases hk:k<P.length
     · have a:P[k]? =some P[k]:=bJ hk
       generalize P[k]=v at a
       have az:=sE hB d.cert
       obtain⟨Q2,aC,aB,c1,c2,g,q,V⟩:=tF wf hB d (uj aq a) I a (by omega) G m
       refine⟨_,c1,by omega,rfl,by omega,?_,g,?_,λv a=>V v (H v a)⟩
       · rw[qd a];exact c2
       · rw[qd a];exact q
     · unfold dR
       rw[I,bI]
       have:¬(k:Int)<(P.length:Int):=by omega
       dsimp only
       simp only[this,decide_false,cond_false]
       have e:P.take k=P:=List.take_of_length_le (by omega)
       rw[e]at d m
       exact⟨_,rfl,d,G,m,H⟩) (2 ^ 64) 0 (Q,0,out,left) (by omega) ⟨rfl,by omega,by simpa using ab,E,⟨F.1,λw C z=>by
        rw[F.2 w C z]
        congr 2
        exact iu λy _ _=>(nH (by simp)).symm⟩,λ_ h=>h⟩ (by omega)
    match an,ax with
    | .inr s,⟨c1,c2,g,q⟩=>
     obtain⟨Q',ad,ao,al⟩:=s
     dsimp only at c1 c2 g q
     have ac:IntKind.i64.wrap ((j:Int)+1)=((j+1:Nat):Int):=by rw[wr' (by omega) (by omega)];omega
     rw[K,bI,bV,ac]
     have O:Q'.take (j+1)=Q.take j++[u]:=by
      obtain⟨R,e⟩:=c1.hu
      have hjl:(Q.take j).length=j:=by rw[z9];omega
      rw[e,show Q.take j++u::R=(Q.take j++[u])++R from by simp,List.take_append_of_le_length (by rw[z5,hjl];simp),List.take_of_length_le (by rw[z5,hjl];simp)]
     have aa:j+1<=Q'.length:=by
      obtain⟨R,e⟩:=c1.hu
      have hjl:(Q.take j).length=j:=by rw[z9];omega
      rw[e,z5,hjl,z8];omega
     have M:∀v,In B v->u∈rowS x v->v∈P:=λv a b=>by
      rw[ar]
      unfold rowS at b
      cases hr:idx x.next v with
      | none=>rw[hr]at b;simp at b
      | some r=>
       cases hk:idx x.pick v with
       | none=>rw[hr,hk]at b;simp at b
       | some k=>rw[hr,hk]at b;exact⟨r,rfl,(List.mem_filter.1 b).1⟩
     have Z:j<n:=by omega
     refine⟨_,rfl,Z,rfl,aa,c1.cert,λv hb Y=>q v (D v hb Y),?_,c2,g.1,λw C z=>?_⟩
     · dsimp only
       rw[O];exact c1.last M
     · dsimp only
       dsimp only at z
       rw[g.2 w C z,O]
       congr 2
       exact iu λy hy _=>by
        unfold dn
        rw[Ad,z6]
        constructor
        · rintro(h | ⟨h,_⟩)
          · exact .inl h
          · exact .inr h
        · rintro(h | h)
          · exact .inl h
          · exact .inr ⟨h,M w C (h ▸ hy)⟩
  · simp only[N,decide_false,cond_false]
    rw[List.take_of_length_le (by omega)]at l
    exact⟨_,rfl,Q,c,D,l,E⟩) (2 ^ 64) 0 (Q0,0,ap,am) (by omega) ⟨rfl,by omega,ae,af,by simpa using ag,ah,by simpa using ai⟩ (by omega)
 match o,ay with
 | .inr s,⟨Q,k1,aj,ak,J⟩=>
  rw[w1,bI,bV]
  refine⟨_,rfl,J.1,?_⟩
  have ha:=k1.attr (pri:=priL x.prio) aj ak
  have e:(λv=>v∈Q)=In s.2.2.1:=by
   funext v
   apply propext
   constructor
   · intro a
     obtain⟨aw,K⟩:=l9 hB (k1.mem v a)
     unfold In;rw[J.2 v aw K];simp[a]
   · intro a
     have hr:=cX a
     unfold In at a
     rw[J.2 v hr.1 (by omega)]at a
     simpa using a
  rw[← e];exact ha
end
end Go.Proofs.YtleekpaohfpooaaGreat
set_option linter.unusedVariables false
set_option linter.unusedSimpArgs false
namespace Go.Proofs.YtleekpaohfpooaaGreat
open Go Go.Wk Go.Proofs
structure WfI (x:solver) (n:Nat):Prop where
 n256:n<=256
 lo:x.game.Arena.Owner.length=n
 lp:x.game.Prio.length=n
 ln:x.game.Arena.Next.length=n
 lv:x.preds.length=n
 ow:∀v o,idx x.game.Arena.Owner v=some o->o=0\/o=1
 row:∀v r,idx x.game.Arena.Next v=some r->r.length<=16/\r.Nodup/\∀u∈r,0<=u/\u<n
 prev:∀u P,idx x.preds u=some P->P.Nodup/\P.length<=100000/\∀v,v∈P↔∃r,idx x.game.Arena.Next v=some r/\u∈r
def eB (a:Arena) (v:Int):List Int:=(idx a.Next v).getD []
def gI (g:Parity):Par.Gm:=mkG (eB g.Arena) (ownL g.Arena.Owner) (priL g.Prio)
theorem fh {a:Arena}{v:Int}{r:List Int}(hr:idx a.Next v=some r):eB a v=r:=by unfold eB;rw[hr];rfl
section
variable {x:solver}{n:Nat}(wf:WfI x n){B:List Bool}(hB:B.length=n)
include wf
include hB
def LI (x:solver) (B:List Bool) (left:List Int) (w:Int) (d:Int->Prop):Prop:=idx left w=some (lf (eB x.game.Arena w) (In B) d:Int)\/(idx left w=some 0/\∀y∈eB x.game.Arena w,In B y->¬d y)
omit wf hB in
theorem LI.congr {left:List Int}{w:Int}{d a:Int->Prop}(h:LI x B left w d) (e:∀y∈eB x.game.Arena w,In B y->(d y↔a y)):LI x B left w a:=by
 rcases h with h | ⟨h1,h2⟩
 · left;rw[h];congr 2;exact iu e
 · right;exact⟨h1,λy hy b hd=>h2 y hy b ((e y hy b).2 hd)⟩
end
end Go.Proofs.YtleekpaohfpooaaGreat
set_option linter.unusedVariables false
set_option linter.unusedSimpArgs false
namespace Go.Proofs.YtleekpaohfpooaaGreat
open Go Go.Wk Go.Proofs
def hasN (N:List (List Int)) (u:Int) (v:Nat):Bool:=match N[v]? with
 | some r=>decide (u∈r)
 | none=>false
def prevL (N:List (List Int)) (u:Int) (j:Nat):List Int:=((List.range j).filter (hasN N u)).map Int.ofNat
theorem um (N:List (List Int)) (u:Int) (j:Nat):prevL N u (j+1)=prevL N u j++(if hasN N u j=true then[(j:Int)] else[]):=by
 unfold prevL
 rw[List.range_succ,List.filter_append,List.map_append]
 congr 1
 by_cases h:hasN N u j=true
 · rw[if_pos h,List.filter_cons,if_pos h];rfl
 · rw[if_neg h,List.filter_cons,if_neg h];rfl
theorem ns:∀{xs:List Nat},xs.Nodup->(xs.map Int.ofNat).Nodup
 | [],_=>by simp
 | x::xs,h=>by
  obtain⟨h1,h2⟩:=List.nodup_cons.1 h
  rw[List.map_cons,List.nodup_cons]
  refine⟨λhm=>?_,ns h2⟩
  obtain⟨y,hy,e⟩:=List.mem_map.1 hm
  have:y=x:=Int.ofNat.inj e
  exact h1 (this ▸ hy)
theorem tf (N:List (List Int)) (u:Int) (j:Nat):(prevL N u j).Nodup:=by
 unfold prevL
 exact ns (List.nodup_range.filter _)
theorem qS (N:List (List Int)) (u:Int) (j:Nat):(prevL N u j).length<=j:=by
 unfold prevL
 rw[Ah]
 exact Nat.le_trans (List.length_filter_le _ _) (by rw[List.length_range];omega)
theorem vL {N:List (List Int)}{u v:Int}{n:Nat}(hn:N.length=n):v∈prevL N u n↔∃r,idx N v=some r/\u∈r:=by
 unfold prevL
 rw[List.mem_map]
 constructor
 · rintro⟨w,a,rfl⟩
   obtain⟨h1,h2⟩:=List.mem_filter.1 a
   unfold hasN at h2
   rw[List.mem_range]at h1
   have e:N[w]? =some N[w]:=bJ (by omega)
   rw[e]at h2
   exact⟨N[w],by rw[show(Int.ofNat w)=(w:Int) from rfl,bS,e],by simpa using h2⟩
 · rintro⟨r,hr,b⟩
   obtain⟨h0,h1⟩:=cX hr
   obtain⟨w,a⟩:=cY h0
   subst a
   rw[bS]at hr
   refine⟨w,List.mem_filter.2 ⟨List.mem_range.2 (by omega),?_⟩,rfl⟩
   unfold hasN
   rw[hr]
   simpa using b
def PrevM (N:List (List Int)) (n j:Nat) (row:List Int) (i:Nat) (t:List (List Int)):Prop:=t.length=n/\∀u:Int,0<=u->u<n->idx t u=some (prevL N u j++(if u∈row.take i then[(j:Int)] else[]))
def PrevT (N:List (List Int)) (n j:Nat) (t:List (List Int)):Prop:=t.length=n/\∀u:Int,0<=u->u<n->idx t u=some (prevL N u j)
theorem PrevT.zero {N:List (List Int)}{n:Nat}:PrevT N n 0 (bO n []):=⟨by simp,λu a b=>by
 rw[cz a,hV,if_pos (by omega)];rfl⟩
theorem PrevT.first {N:List (List Int)}{n j:Nat}{t:List (List Int)}(h:PrevT N n j t) (row:List Int):PrevM N n j row 0 t:=⟨h.1,λu a b=>by rw[h.2 u a b];simp⟩
theorem PrevM.last {N:List (List Int)}{n j:Nat}{row:List Int}{t:List (List Int)}(hr:N[j]? =some row) (h:PrevM N n j row row.length t):PrevT N n (j+1) t:=⟨h.1,λu b c=>by
 rw[h.2 u b c,um,List.take_length]
 unfold hasN
 rw[hr]
 by_cases a:u∈row <;> simp[a]⟩
theorem PrevM.step {N:List (List Int)}{n j i:Nat}{row:List Int}{t:List (List Int)}{u:Int}(h:PrevM N n j row i t) (b:row[i]? =some u) (hn:row.Nodup) (c:0<=u) (d:u<n):
 ∃a,idx t u=some a/\a.length<=j+1/\∃t',setI t u (a++[(j:Int)])=some t'/\PrevM N n j row (i+1) t':=by
 refine⟨_,h.2 u c d,?_,?_⟩
 · have:=qS N u j
   rw[z5]
   split
   · simp;omega
   · simp;omega
 · have f:u∉row.take i:=by
    have h2:=hn.sublist (List.take_sublist (i+1) row)
    rw[Ae,b,List.nodup_append]at h2
    exact λhm=>h2.2.2 u hm u (by simp) rfl
   obtain⟨t',h1,h2⟩:=dy (xs:=t) (i:=u) (prevL N u j++(if u∈row.take i then[(j:Int)] else[])++[(j:Int)]) c (by rw[h.1];exact d)
   refine⟨t',h1,by rw[h2];exact h.1,λw k w1=>?_⟩
   have g:row.take (i+1)=row.take i++[u]:=by rw[Ae,b];rfl
   rw[dq h1,g]
   by_cases e:w=u
   · subst e
     rw[if_pos rfl,if_neg f]
     simp
   · rw[if_neg e,h.2 w k w1]
     congr 2
     simp[e]
def fu (B:List Bool) (j:Nat):List Int:=((List.range j).filter (λv=>B[v]?.getD false)).map Int.ofNat
theorem nP (B:List Bool) (j:Nat):(fu B j).Nodup:=by
 unfold fu
 exact ns (List.nodup_range.filter _)
theorem lM (B:List Bool) (j:Nat):(fu B j).length<=j:=by
 unfold fu
 rw[Ah]
 exact Nat.le_trans (List.length_filter_le _ _) (by rw[List.length_range];omega)
theorem dO {B:List Bool}{v:Int}:v∈fu B B.length↔In B v:=by
 unfold fu In
 rw[List.mem_map]
 constructor
 · rintro⟨w,a,rfl⟩
   obtain⟨h1,h2⟩:=List.mem_filter.1 a
   rw[List.mem_range]at h1
   rw[show(Int.ofNat w)=(w:Int) from rfl,bS]
   have e:B[w]? =some B[w]:=bJ h1
   rw[e]at h2 ⊢
   simpa using h2
 · intro h
   obtain⟨h0,h1⟩:=cX h
   obtain⟨w,a⟩:=cY h0
   subst a
   rw[bS]at h
   exact⟨w,List.mem_filter.2 ⟨List.mem_range.2 (by omega),by rw[h];rfl⟩,rfl⟩
theorem ot {ys:List Int}:∀{xs:List Int},xs.Nodup->(∀x∈xs,x∈ys)->xs.length<=ys.length:=by
 induction ys with
 | nil=>
  intro xs _ h
  cases xs with
  | nil=>simp
  | cons x xs=>exact absurd (h x (List.mem_cons_self ..)) (by simp)
 | cons y ys a=>
  intro xs hn h
  by_cases hm:y∈xs
  · have h1:=List.length_erase_of_mem hm
    have h2:=a (xs:=xs.erase y) (hn.erase _) (λx hx=>by
     rw[hn.mem_erase_iff]at hx
     exact(List.mem_cons.1 (h x hx.2)).resolve_left hx.1)
    rw[z8]
    omega
  · have:=a (xs:=xs) hn (λx hx=>(List.mem_cons.1 (h x hx)).resolve_left λe=>hm (e ▸ hx))
    rw[z8]
    omega
def cnt (B:List Bool):Nat:=(fu B B.length).length
theorem lG (B:List Bool):cnt B<=B.length:=lM _ _
theorem wq {A B:List Bool}(h:∀v,In A v->In B v){w:Int}(b:In B w) (hn:¬In A w):cnt A<cnt B:=by
 have hs:∀v∈w::fu A A.length,v∈fu B B.length:=λv a=>by
  rcases List.mem_cons.1 a with rfl | a
  · exact dO.2 b
  · exact dO.2 (h v (dO.1 a))
 have hd:(w::fu A A.length).Nodup:=List.nodup_cons.2 ⟨λhm=>hn (dO.1 hm),nP _ _⟩
 have:=ot hd hs
 rw[z8]at this
 exact this
theorem wv {B:List Bool}(h:cnt B=0) (v:Int):¬In B v:=λa=>by
 have:=dO.2 a
 unfold cnt at h
 rw[List.length_eq_zero_iff]at h
 rw[h]at this
 cases this
end Go.Proofs.YtleekpaohfpooaaGreat
set_option linter.unusedVariables false
set_option linter.unusedSimpArgs false
namespace Go.Proofs.YtleekpaohfpooaaGreat
open Go Go.Wk Go.Proofs
theorem fill {m α:Type}{f:Int->List α->Option (m⊕(List α⊕List α))}(a:Nat->α) (n:Nat){s0:List α}(h0:s0.length=n)
 (l:∀(j:Nat) s,j<n->s.length=n->f (j:Int) s=bH (idx s (j:Int)) λ_=>bH (setI s (j:Int) (a j)) λy=>some (.inr (.inr y))):
 ∃s,cntM f n 0 s0=some (.inr s)/\s.length=n/\∀j:Nat,j<n->idx s (j:Int)=some (a j):=by
 obtain⟨s,h1,h2,c⟩:=cv (f:=f) (λj (s:List α)=>s.length=n/\∀i:Nat,i<j->idx s (i:Int)=some (a i)) n (s:=s0) ⟨h0,λi b=>absurd b (Nat.not_lt_zero i)⟩ (λj s hj ⟨g,k⟩=>by
  obtain⟨o,d⟩:=cF (xs:=s) (i:=(j:Int)) (by omega) (by omega)
  obtain⟨p,hs,hl⟩:=dy (xs:=s) (i:=(j:Int)) (a j) (by omega) (by omega)
  rw[l j s hj g,d,bI,hs,bI]
  refine⟨_,rfl,by omega,λi b=>?_⟩
  rw[dq hs]
  by_cases e:(i:Int)=(j:Int)
  · have:i=j:=by omega
    subst this
    rw[if_pos rfl]
  · rw[if_neg e];exact k i (by omega))
 exact⟨s,h1,h2,c⟩
theorem fillB {g:Type}{f:Int->List Bool->Option (g⊕(List Bool⊕List Bool))}(P:Int->Prop) [∀v,Decidable (P v)] (n:Nat){s0:List Bool}(h0:s0.length=n)
 (d:∀(j:Nat) s,j<n->s.length=n->f (j:Int) s=bH (idx s (j:Int)) λ_=>bH (setI s (j:Int) (decide (P (j:Int)))) λy=>some (.inr (.inr y))) (c:∀v,P v->0<=v/\v<n):
 ∃s,cntM f n 0 s0=some (.inr s)/\s.length=n/\∀v,In s v↔P v:=by
 obtain⟨s,h1,h2,b⟩:=fill (f:=f) (λj=>decide (P (j:Int))) n h0 d
 refine⟨s,h1,h2,λv=>?_⟩
 constructor
 · intro h
   obtain⟨a,e⟩:=cX h
   obtain⟨j,hj⟩:=cY a
   subst hj
   have:=b j (by omega)
   unfold In at h
   rw[h]at this
   exact of_decide_eq_true (Option.some.inj this).symm
 · intro h
   obtain⟨a,e⟩:=c v h
   obtain⟨j,hj⟩:=cY a
   subst hj
   unfold In
   rw[b j (by omega),decide_eq_true h]
instance (B:List Bool) (v:Int):Decidable (In B v):=by unfold In;exact inferInstance
theorem yK {B:List Bool}{v:Int}{b:Bool}(h:idx B v=some b):b=decide (In B v):=by
 have:In B v↔b=true:=by unfold In;rw[h];simp
 rw[Ab];simp[this]
theorem dz {B:List Bool}{v:Int}(h0:0<=v) (h1:v<B.length):idx B v=some (decide (In B v)):=by
 obtain⟨b,hb⟩:=cF (xs:=B) h0 h1
 rw[← yK hb];exact hb
theorem eM {B:List Bool}{n:Nat}(hB:B.length=n){v:Int}(h:In B v):0<=v/\v<n:=by
 have:=cX h
 rw[hB]at this
 exact this
end Go.Proofs.YtleekpaohfpooaaGreat
set_option linter.unusedVariables false
set_option linter.unusedSimpArgs false
namespace Go.Proofs.YtleekpaohfpooaaGreat
open Go Go.Wk Go.Proofs
end Go.Proofs.YtleekpaohfpooaaGreat
set_option linter.unusedVariables false
set_option linter.unusedSimpArgs false
namespace Go.Proofs.YtleekpaohfpooaaGreat
open Go Go.Wk Go.Proofs
section
variable {x:solver}{n:Nat}(wf:WfI x n){B:List Bool}(hB:B.length=n)
include wf hB
end
end Go.Proofs.YtleekpaohfpooaaGreat
set_option linter.unusedVariables false
set_option linter.unusedSimpArgs false
namespace Go.Proofs.YtleekpaohfpooaaGreat.Par
open Classical
variable {G:Gm}{X Y:Int->Prop}{p:Bool}{S S' A A2 W W2 D:Int->Prop}
theorem IsAttr.congrS (h:IsAttr G X p S A) (e:∀v,X v->(S v↔S' v)):IsAttr G X p S' A:=by
 obtain⟨r,hr⟩:=h.rank
 refine⟨h.sub,λv hx hs=>h.base v hx ((e v hx).2 hs),⟨r,λv a=>?_⟩,h.mine,h.yours⟩
 rcases hr v a with k | k
 · exact .inl ((e v (h.sub v a)).1 k)
 · exact .inr k
structure Red (G:Gm) (X Y:Int->Prop) (p:Bool):Prop where
 sub:∀v,Y v->X v
 mine:∀D,Dom G Y p D->Dom G X p D
 yours:∀D,Dom G Y (!p) D->Dom G X (!p) (λv=>Mn X Y v\/D v)
theorem Red.refl:Red G X X p:=⟨λ_ h=>h,λ_ h=>h,λD h=>h.congr λv=>⟨.inr,λh=>h.resolve_left λh=>h.2 h.1⟩⟩
theorem Red.step (h:Red G X Y p) (b:IsAttr G Y p S A) (hW:Sol G (Mn Y A) p W) (h2:IsAttr G Y (!p) (Mn (Mn Y A) W) A2):Red G X (Mn Y A2) p:=by
 have hL:Dom G Y (!p) (Mn (Mn Y A) W):=Dom.lift b hW.yours
 refine⟨λv c=>h.sub v c.1,λD hD=>h.mine D ?_,λD hD=>(h.yours _ (Dom.grow hL h2 hD)).congr λv=>?_⟩
 · have:=Dom.lift (p:= !p) (D:=D) h2 (by rwa [Bool.not_not])
   rwa [Bool.not_not]at this
 · constructor
   · rintro(⟨k1,a⟩ | k | k)
     · exact .inl ⟨k1,λk=>a k.1⟩
     · exact .inl ⟨h.sub v (h2.sub v k),λk'=>k'.2 k⟩
     · exact .inr k
   · rintro(⟨k1,a⟩ | k)
     · by_cases hy:Y v
       · by_cases ha:A2 v
         · exact .inr (.inl ha)
         · exact absurd ⟨hy,ha⟩ a
       · exact .inl ⟨k1,hy⟩
     · exact .inr (.inr k)
theorem Red.sol (h:Red G X Y p) (a:Sol G Y p W):Sol G X p W:=⟨λv c=>h.sub v (a.sub v c),h.mine W a.mine,(h.yours _ a.yours).congr λv=>by
 constructor
 · rintro(⟨k1,b⟩ | k)
   · exact⟨k1,λk=>b (a.sub v k)⟩
   · exact⟨h.sub v k.1,k.2⟩
 · rintro⟨k1,b⟩
   by_cases hy:Y v
   · exact .inr ⟨hy,b⟩
   · exact .inl ⟨k1,hy⟩⟩
theorem Sol.all (h:Dom G Y p Y):Sol G Y p Y:=⟨λ_ h=>h,h,Dom.empty.congr λv=>⟨λh=>h.elim,λh=>h.2 h.1⟩⟩
theorem Sol.none (h:∀v,¬X v):Sol G X p W->∀v,¬W v:=λhs v a=>h v (hs.sub v a)
theorem Sol.void (h:∀v,¬X v):Sol G X p X:=Sol.all (Dom.empty.congr λv=>⟨λh=>h.elim,λhx=>h v hx⟩)
theorem Sol.top {d:Int}(b:NoDead G X) (hd:∀v,X v->G.pri v<=d) (hp:oddP d=p) (a:IsAttr G X p (λv=>G.pri v=d) A) (hW:Sol G (Mn X A) p W) (hE:∀v,Mn X A v->W v):Sol G X p X:=
 Sol.all (Dom.top b hd hp a (hW.mine.congr λv=>⟨hW.sub v,hE v⟩))
theorem Sol.asP {q:Bool}(h:Sol G X q W) (p:Bool):Sol G X p (λv=>X v/\(W v↔p=q)):=by
 by_cases e:p=q
 · subst e
   exact h.congr λv=>⟨λa=>⟨h.sub v a,⟨λ_=>rfl,λ_=>a⟩⟩,λa=>a.2.2 rfl⟩
 · have:p= !q:=by revert e;cases p <;> cases q <;> simp
   subst this
   exact h.flip.congr λv=>⟨λa=>⟨a.1,⟨λb=>absurd b a.2,λc=>absurd c e⟩⟩,λa=>⟨a.1,λb=>e (a.2.1 b)⟩⟩
end Go.Proofs.YtleekpaohfpooaaGreat.Par
set_option linter.unusedVariables false
set_option linter.unusedSimpArgs false
namespace Go.Proofs.YtleekpaohfpooaaGreat
open Go Go.Wk Go.Proofs
theorem tj {P:List Int}{v:Int}(h0:0<=v) (h1:v<P.length):idx P v=some (priL P v):=by
 obtain⟨q,a⟩:=cF (xs:=P) h0 h1
 unfold priL;rw[a];rfl
def PriOk (P:List Int):Prop:=∀v q,idx P v=some q->0<=q/\q<=40
theorem xr {d:Int}(h:0<=d):Int.tmod d 2=b2i (Par.oddP d):=by
 rw[Int.tmod_eq_emod_of_nonneg h]
 unfold Par.oddP b2i
 by_cases e:d % 2=1
 · simp[e]
 · simp[e];omega
theorem pe (p:Bool):(b2i p==0)= !p:=by cases p <;> rfl
theorem wl (p:Bool):(b2i p==1)=p:=by cases p <;> rfl
theorem uK (p q:Bool):(b2i p==b2i q)=(p==q):=by cases p <;> cases q <;> rfl
theorem qF (p:Bool):IntKind.i64.wrap (1-b2i p)=b2i (!p):=by cases p <;> decide
theorem qN {A B:List Bool}{n:Nat}(a:A.length=n) (hB:B.length=n) (hn:n<=256):∃R,lA A B=some R/\R.length=n/\∀v,In R v↔In A v/\¬In B v:=by
 unfold lA
 rw[a,dD (by omega) rfl,bI]
 obtain⟨R,h1,h2,b⟩:=fillB (f:=jG A B) (λv=>In A v/\¬In B v) n (s0:=bO n false) (by simp) (λj s hj hs=>by
  unfold jG
  rw[dz (B:=A) (by omega) (by omega),bI,dz (B:=B) (by omega) (by omega),bI,andE,bI]
  congr 1
  funext _
  congr 2
  rw[Ab];simp) (λv c=>eM a c.1)
 rw[h1,bI,bV]
 exact⟨R,rfl,h2,b⟩
section
variable {x:l7Game}{n:Nat}(wf:WfS x n) (hp:PriOk x.prio)
include wf hp
theorem yG {B:List Bool}(hB:B.length=n):∃d:Int,oc x B=some d/\d<=40/\(∀v,In B v->priL x.prio v<=d)/\((d= -1/\∀v,¬In B v)\/(0<=d/\∃v,In B v/\priL x.prio v=d)):=by
 have t:=wf.lp
 obtain⟨s,h1,h2,q,r⟩:=cv (f:=ku x B) (λj (s:Int)=>s<=40/\(∀v,v<(j:Int)->In B v->priL x.prio v<=s)/\((s= -1/\∀v,v<(j:Int)->¬In B v)\/(0<=s/\∃v,In B v/\priL x.prio v=s))) B.length (s:=(-1:Int)) ⟨by omega,λv a b=>by
  have:=eM hB b;omega,.inl ⟨rfl,λv a b=>by have:=eM hB b;omega⟩⟩ (λj s hj ⟨l,g,m⟩=>by
  rw[hB]at hj
  unfold ku
  have k:=tj (P:=x.prio) (v:=(j:Int)) (by omega) (by omega)
  obtain⟨o,p⟩:=hp _ _ k
  rw[dz (B:=B) (by omega) (by omega),bI,k]
  by_cases b:In B (j:Int)
  · simp only[b,decide_true,cond_true,bI]
    unfold jN
    by_cases i:priL x.prio (j:Int)<s
    · simp only[i,decide_true,cond_true,bI]
      refine⟨_,rfl,l,λv a c=>?_,?_⟩
      · by_cases e:v=(j:Int)
        · subst e;omega
        · exact g v (by omega) c
      · rcases m with ⟨e,_⟩ | h
        · omega
        · exact .inr h
    · simp only[i,decide_false,cond_false,bI]
      refine⟨_,rfl,p,λv a c=>?_,.inr ⟨o,(j:Int),b,rfl⟩⟩
      by_cases e:v=(j:Int)
      · subst e;omega
      · have:=g v (by omega) c;omega
  · simp only[b,decide_false,cond_false,bI]
    refine⟨_,rfl,l,λv a c=>?_,?_⟩
    · by_cases e:v=(j:Int)
      · subst e;exact absurd c b
      · exact g v (by omega) c
    · rcases m with ⟨e,h⟩ | h
      · refine .inl ⟨e,λv a c=>?_⟩
        by_cases e:v=(j:Int)
        · subst e;exact b c
        · exact h v (by omega) c
      · exact .inr h)
 unfold oc
 rw[h1,bI,bV]
 refine⟨s,rfl,h2,λv a=>q v (by have:=eM hB a;omega) a,?_⟩
 rcases r with ⟨e,h⟩ | h
 · exact .inl ⟨e,λv a=>h v (by have:=eM hB a;omega) a⟩
 · exact .inr h
omit wf hp in
theorem zy {rest a:List Bool}{d:Int}{p:Bool}(hd:Int.tmod d 2=b2i p) (hr:rest.length=n) (hl:a.length=n):∃L b,cntM (jh d rest a) n 0 (false,bO n false)=some (.inr (b,L))/\L.length=n/\(∀v,In L v↔In rest v/\(In a v↔p=true))/\(b=true↔∃v,In L v):=by
 let k:Nat->Bool:=λj=>decide (In rest (j:Int)/\(In a (j:Int)↔p=true))
 obtain⟨s,h1,h2,m,q⟩:=cv (f:=jh d rest a) (λj (s:Bool×List Bool)=>s.2.length=n/\(∀i:Nat,i<j->idx s.2 (i:Int)=some (k i))/\(s.1=true↔∃i:Nat,i<j/\k i=true)) n (s:=(false,bO n false)) ⟨by simp,λi c=>absurd c (Nat.not_lt_zero i),by simp⟩ (λj s hj ⟨y,r,t⟩=>by
  obtain⟨b,L⟩:=s
  dsimp only at y r t
  obtain⟨A,x⟩:=cF (xs:=L) (i:=(j:Int)) (by omega) (by omega)
  obtain⟨L',hs,z⟩:=dy (xs:=L) (i:=(j:Int)) (k j) (by omega) (by omega)
  have l:(decide (In rest (j:Int))&&(decide (In a (j:Int)) != !p))=k j:=by
   show _=decide (In rest (j:Int)/\(In a (j:Int)↔p=true))
   rw[Ab]
   cases p <;> simp
  have w:idx L' (j:Int)=some (k j):=by rw[dq hs,if_pos rfl]
  unfold jh
  dsimp only
  rw[dz (B:=rest) (by omega) (by omega),bI,dz (B:=a) (by omega) (by omega),bI,andE,bI,hd,pe,l,x,bI,hs,bI,w,bI,orE,bI]
  refine⟨_,rfl,by dsimp only;omega,λi c=>?_,?_⟩
  · dsimp only
    rw[dq hs]
    by_cases e:(i:Int)=(j:Int)
    · have:i=j:=by omega
      subst this
      rw[if_pos rfl]
    · rw[if_neg e];exact r i (by omega)
  · dsimp only
    rw[Bool.or_eq_true,t]
    constructor
    · rintro(⟨i,c,h⟩ | h)
      · exact⟨i,by omega,h⟩
      · exact⟨j,by omega,h⟩
    · rintro⟨i,c,h⟩
      by_cases e:i=j
      · subst e;exact .inr h
      · exact .inl ⟨i,by omega,h⟩)
 obtain⟨b,L⟩:=s
 dsimp only at h2 m q
 have o:∀v,In L v↔In rest v/\(In a v↔p=true):=λv=>by
  constructor
  · intro h
    obtain⟨g,u⟩:=cX h
    obtain⟨j,hj⟩:=cY g
    subst hj
    have:=m j (by omega)
    unfold In at h
    rw[h]at this
    exact of_decide_eq_true (Option.some.inj this).symm
  · intro h
    obtain⟨g,u⟩:=eM hr h.1
    obtain⟨j,hj⟩:=cY g
    subst hj
    unfold In
    rw[m j (by omega)]
    congr 1
    exact decide_eq_true h
 refine⟨L,b,h1,h2,o,?_⟩
 rw[q]
 constructor
 · rintro⟨i,c,h⟩
   exact⟨(i:Int),(o _).2 (of_decide_eq_true h)⟩
 · rintro⟨v,l⟩
   obtain⟨g,u⟩:=eM h2 l
   obtain⟨j,hj⟩:=cY g
   subst hj
   exact⟨j,by omega,decide_eq_true ((o _).1 l)⟩
theorem yH:∀(k:Nat) (B:List Bool) (f:Nat),B.length=n->Par.NoDead (gS x) (In B)->cnt B<=k->k<f->∃R,kJ f x B=some R/\R.length=n/\Par.Sol (gS x) (In B) false (In R):=by
 have hn:=wf.n256
 intro k
 induction k with
 | zero=>
  intro B f hB i hk hf
  obtain⟨f,rfl⟩:∃g,f=g+1:=⟨f-1,by omega⟩
  show ∃R,ji (kJ f) x B=some R/\_
  unfold ji
  obtain⟨d,C,ay,ac,M⟩:=yG wf hp hB
  have c:=wv (B:=B) (by omega)
  rcases M with ⟨e,_⟩ | ⟨_,v,a,_⟩
  · subst e
    rw[C,bI,hB,dD (by omega) rfl,bI]
    refine⟨_,rfl,by simp,(Par.Sol.void c).congr λv=>⟨λh=>absurd h (c v),λh=>?_⟩⟩
    have hr:=cX h
    unfold In at h
    rw[cz hr.1,hV]at h
    split at h <;> simp at h
  · exact absurd a (c v)
 | succ k X=>
  intro B f hB i hk hf
  obtain⟨f,rfl⟩:∃g,f=g+1:=⟨f-1,by omega⟩
  show ∃R,ji (kJ f) x B=some R/\_
  unfold ji
  obtain⟨d,C,ay,ac,M⟩:=yG wf hp hB
  rcases M with ⟨e,c⟩ | ⟨an,w,G,ap⟩
  · subst e
    rw[C,bI,hB,dD (by omega) rfl,bI]
    refine⟨_,rfl,by simp,(Par.Sol.void c).congr λv=>⟨λh=>absurd h (c v),λh=>?_⟩⟩
    have hr:=cX h
    unfold In at h
    rw[cz hr.1,hV]at h
    split at h <;> simp at h
  · have ao:decide (d<0)=false:=by simp;omega
    have m:=xr an
    generalize hpe:Par.oddP d=p at m
    rw[C,bI,hB,dD (by omega) rfl,bI]
    simp only[ao,cond_false,bI]
    obtain⟨goal,ah,ai,T⟩:=fillB (f:=kv x B d) (λv=>In B v/\priL x.prio v=d) n (s0:=bO n false) (by simp) (λj s hj hs=>by
     unfold kv
     rw[dz (B:=B) (by omega) (by omega),bI,tj (P:=x.prio) (by omega) (by rw[wf.lp];omega),bI,andE,bI]
     congr 1
     funext _
     congr 2
     rw[Ab];simp) (λv a=>eM hB a.1)
    rw[ah,bI,bV,m]
    obtain⟨A,a1,a2,N⟩:=xg wf hB ai p i
    have D:Par.IsAttr (gS x) (In B) p (λv=>(gS x).pri v=d) (In A):=N.congrS λv a=>by rw[T];exact⟨λh=>h.2,λh=>⟨a,h⟩⟩
    obtain⟨rest,ax,ab,z⟩:=qN hB a2 hn
    have F:∀v,Par.Mn (In B) (In A) v↔In rest v:=λv=>(z v).symm
    have y:Par.Mn (In B) (In A)=In rest:=funext λv=>propext (F v)
    have ak:Par.NoDead (gS x) (In rest):=y ▸ i.less D
    have az:cnt rest<cnt B:=wq (λv a=>((z v).1 a).1) G λh=>((z w).1 h).2 (N.base w G ((T w).2 ⟨G,ap⟩))
    obtain⟨H,aq,ar,au⟩:=X rest f ab ak (by omega) (by omega)
    obtain⟨L,b,av,aw,Z,aa⟩:=zy m ab ar
    simp only[a1,bI,ax,aq,av,bV]
    have hW:=au.asP p
    have U:∀v,In L v↔Par.Mn (In rest) (λv=>In rest v/\(In H v↔p=false)) v:=λv=>by
     rw[Z]
     unfold Par.Mn
     by_cases h1:In rest v <;> by_cases h2:In H v <;> cases p <;> simp[h1,h2]
    have ag:Par.Mn (In rest) (λv=>In rest v/\(In H v↔p=false))=In L:=funext λv=>propext (U v).symm
    cases hb:b with
    | false=>
     simp only[Bool.not_false,cond_true]
     have c:∀v,¬In L v:=λv a=>by
      have:=aa.2 ⟨v,a⟩
      rw[hb]at this;cases this
     obtain⟨R,I,J,K⟩:=fillB (f:=kw B d) (λv=>In B v/\p=false) n (s0:=bO n false) (by simp) (λj s hj hs=>by
      unfold kw
      rw[dz (B:=B) (by omega) (by omega),bI,andE,bI,m,pe]
      congr 1
      funext _
      congr 2
      rw[Ab];simp) (λv a=>eM hB a.1)
     rw[I,bI,bV]
     refine⟨R,rfl,J,?_⟩
     have E:Par.Sol (gS x) (In B) p (In B):=Par.Sol.top i ac hpe D (y.symm ▸ hW) λv a=>by
      have a:=(F v).1 a
      apply Classical.byContradiction
      intro hc
      exact c v ((U v).2 ⟨a,λh=>hc ⟨(F v).2 a,h.2⟩⟩)
     refine(E.asP false).congr λv=>?_
     rw[K]
     constructor
     · rintro⟨k1,o⟩;exact⟨k1,(o.1 k1).symm⟩
     · rintro⟨k1,o⟩;exact⟨k1,λ_=>o.symm,λ_=>k1⟩
    | true=>
     simp only[zZ,cond_false]
     obtain⟨r,V⟩:=aa.1 hb
     obtain⟨A2,ad,O,t⟩:=xg wf hB aw (!p) i
     obtain⟨q,c1,c2,u⟩:=qN hB O hn
     have S:Par.Mn (In B) (In A2)=In q:=funext λv=>propext (u v).symm
     have al:Par.NoDead (gS x) (In q):=S ▸ i.less t
     have W:In B r:=((z r).1 ((Z r).1 V).1).1
     have aA:cnt q<cnt B:=wq (λv a=>((u v).1 a).1) W λh=>((u r).1 h).2 (t.base r W V)
     obtain⟨l,ae,af,Q⟩:=X q f c2 al (by omega) (by omega)
     rw[qF]
     simp only[ad,bI,c1,ae]
     obtain⟨R,I,J,K⟩:=fillB (f:=kx d A2 l) (λv=>In l v\/(In A2 v/\p=true)) n (s0:=bO n false) (by simp) (λj s hj hs=>by
      unfold kx
      rw[dz (B:=l) (by omega) (by omega),bI,dz (B:=A2) (by omega) (by omega),bI,andE,bI,orE,bI,m,wl]
      congr 1
      funext _
      congr 2
      rw[Ab];simp) (λv a=>by
       rcases a with h | h
       · exact eM af h
       · exact eM O h.1)
     rw[I,bI,bV]
     refine⟨R,rfl,J,?_⟩
     have am:Par.Red (gS x) (In B) (Par.Mn (In B) (In A2)) p:=Par.Red.refl.step D (y.symm ▸ hW) (by rw[y,ag];exact t)
     have E:=am.sol (S.symm ▸ Q.asP p)
     refine(E.asP false).congr λv=>?_
     rw[K]
     have k1:In l v->In q v:=Q.sub v
     have o:In A2 v->In B v:=t.sub v
     have Y:=u v
     by_cases h1:In B v <;> by_cases h2:In A2 v <;> by_cases aj:In l v <;> cases aB:p <;> simp[h1,h2]at k1 o Y <;> simp[h1,h2,aj,Y] <;> simp_all
end
end Go.Proofs.YtleekpaohfpooaaGreat
set_option linter.unusedVariables false
set_option linter.unusedSimpArgs false
namespace Go.Proofs.YtleekpaohfpooaaGreat
open Go Go.Wk Go.Proofs
section
variable {x:solver}{n:Nat}(wf:WfI x n) (hp:PriOk x.game.Prio)
include wf hp
end
end Go.Proofs.YtleekpaohfpooaaGreat
set_option linter.unusedVariables false
set_option linter.unusedSimpArgs false
namespace Go.Proofs.YtleekpaohfpooaaGreat
open Go Go.Wk Go.Proofs
structure GOk (g:Parity) (n:Nat):Prop where
 n256:n<=256
 lo:g.Arena.Owner.length=n
 lp:g.Prio.length=n
 ln:g.Arena.Next.length=n
 ow:∀v o,idx g.Arena.Owner v=some o->o=0\/o=1
 row:∀v r,idx g.Arena.Next v=some r->r.length<=16/\r.Nodup/\∀u∈r,0<=u/\u<n
 pri:PriOk g.Prio
theorem uZ {α:Type}{xs:List α}{v:Int}{x:α}(h:idx xs v=some x):x∈xs:=by
 obtain⟨h0,_⟩:=cX h
 rw[cz h0]at h
 exact bQ h
theorem GOk.of {g:Parity}(h:c9 g=true):GOk g g.Prio.length:=by
 obtain⟨h1,h2,s,t,a⟩:=eS h
 obtain⟨b,c⟩:=pQ h
 refine⟨by omega,by omega,rfl,by omega,λv o e=>?_,λv r hr=>?_,λv q f=>?_⟩
 · have:=fg.1 (b o (uZ e))
   omega
 · obtain⟨p,_⟩:=cX hr
   obtain⟨i,d⟩:=cY p
   subst d
   rw[bS]at hr
   obtain⟨w,k,l⟩:=a i r hr
   obtain⟨m,n⟩:=ig.1 l
   exact⟨k,gT n,λu j=>by have:=m u j;omega⟩
 · have:=fg.1 (c q (uZ f))
   omega
section
variable {g:Parity}{n:Nat}(h:GOk g n)
include h
theorem vo:∃P,oC g=some ⟨g.Arena.Owner,g.Prio,g.Arena.Next,P,bO n (-1)⟩/\PrevT g.Arena.Next n n P:=by
 have hn:=h.n256
 unfold oC
 rw[h.lp,dD (by omega) rfl,bI,dD (by omega) rfl,bI]
 obtain⟨s,h1,h2,F,r⟩:=cv (f:=lB g) (λj (s:List (List Int)×List Int)=>PrevT g.Arena.Next n j s.1/\s.2.length=n/\∀i:Nat,i<j->idx s.2 (i:Int)=some (-1)) n (s:=(bO n [],bO n 0)) ⟨PrevT.zero,by simp,λi a=>absurd a (Nat.not_lt_zero i)⟩ (λj s hj ⟨hs,A,q⟩=>by
  obtain⟨s,k⟩:=s
  dsimp only at hs A q
  have hr:g.Arena.Next[j]? =some (g.Arena.Next[j]'(by rw[h.ln];exact hj)):=bJ (by rw[h.ln];exact hj)
  generalize g.Arena.Next[j]'(by rw[h.ln];exact hj)=row at hr
  obtain⟨J,B,C⟩:=h.row (j:Int) row (by rw[bS];exact hr)
  obtain⟨p,v⟩:=cF (xs:=k) (i:=(j:Int)) (by omega) (by omega)
  obtain⟨k',hk,G⟩:=dy (xs:=k) (i:=(j:Int)) (-1) (by omega) (by omega)
  unfold lB
  dsimp only
  rw[v,bI,hk,bI]
  obtain⟨o,w1,l⟩:=cC (f:=lC g (j:Int)) (λi (t:Int×List (List Int))=>t.1=(i:Int)/\i<=row.length/\PrevM g.Arena.Next n j row i t.2) (λ_=>False) (λt=>PrevM g.Arena.Next n j row row.length t.2) row.length (λi t ⟨a1,a2,c⟩=>by
   obtain⟨H,t⟩:=t
   dsimp only at a1 c
   subst a1
   unfold lC
   dsimp only
   rw[bS,hr,bI]
   by_cases m:i<row.length
   · have d:(i:Int)<(row.length:Int):=by omega
     have b:row[i]? =some row[i]:=bJ m
     generalize row[i]=u at b
     obtain⟨D,E⟩:=C u (bQ b)
     obtain⟨p,x,I,t',y,z⟩:=c.step b B D E
     have w:IntKind.i64.wrap ((i:Int)+1)=((i+1:Nat):Int):=by rw[wr' (by omega) (by omega)];omega
     simp only[d,decide_true,cond_true,bI,bS,b,x,app1 (show p.length<=10000000000 by omega) (show Nat.ble 8 1024=true from rfl),y,w]
     exact⟨_,rfl,m,rfl,by omega,z⟩
   · have d:¬(i:Int)<(row.length:Int):=by omega
     simp only[d,decide_false,cond_false]
     have e:i=row.length:=by omega
     subst e
     exact⟨_,rfl,c⟩) (2 ^ 64) 0 (0,s) (by omega) ⟨rfl,by omega,hs.first row⟩ (by omega)
  match o,l with
  | .inr t,l=>
   rw[w1,bI,bV]
   refine⟨_,rfl,l.last hr,by dsimp only;omega,λi a=>?_⟩
   dsimp only
   rw[dq hk]
   by_cases e:(i:Int)=(j:Int)
   · rw[if_pos e]
   · rw[if_neg e];exact q i (by omega))
 rw[h1,bI,bV]
 have e:s.2=bO n (-1):=by
  apply List.ext_getElem?
  intro i
  rw[hV]
  by_cases a:i<n
  · rw[if_pos a,← bS];exact r i a
  · rw[if_neg a];exact Ac (by omega)
 refine⟨s.1,?_,h2⟩
 rw[e]
theorem GOk.wfS {P:List (List Int)}(b:PrevT g.Arena.Next n n P){k:List Int}(hk:k.length=n):WfS ⟨g.Arena.Owner,g.Prio,g.Arena.Next,P,k⟩ n:=by
 refine⟨h.n256,h.lo,h.lp,h.ln,hk,b.1,h.ow,h.row,λu Q a=>?_⟩
 obtain⟨d,c⟩:=cX a
 have c:u<(P.length:Int):=c
 have a:idx P u=some Q:=a
 rw[b.2 u d (by have:=b.1;omega)]at a
 cases a
 have:=qS g.Arena.Next u n
 have:=h.n256
 exact⟨tf _ _ _,by omega,λv=>vL h.ln⟩
theorem xI (P:List (List Int)):gS ⟨g.Arena.Owner,g.Prio,g.Arena.Next,P,bO n (-1)⟩=gI g:=by
 unfold gS gI
 congr 1
 funext v
 unfold rowS eB
 dsimp only
 cases hr:idx g.Arena.Next v with
 | none=>rfl
 | some r=>
  obtain⟨b,c⟩:=cX hr
  have:idx (bO n (-1:Int)) v=some (-1):=by
   rw[cz b,hV,if_pos (by have:=h.ln;omega)]
  rw[this]
  show r.filter (okE (-1))=r
  rw[List.filter_eq_self]
  intro a _
  rfl
theorem yM:ob (g.Prio.length:Int)=some (bO n true):=by
 have hn:=h.n256
 unfold ob
 have hr:rng (n:Int)=some ()\/True:= .inr trivial
 rw[h.lp,dD (by omega) rfl,bI,show Int.toNat ((n:Int)-0)=n from by omega]
 obtain⟨s,h1,h2,b⟩:=fill (f:=kq) (λ_=>true) n (s0:=bO n false) (by simp) (λj s hj hs=>by
  unfold kq
  rfl)
 rw[h1]
 have e:s=bO n true:=by
  apply List.ext_getElem?
  intro i
  rw[hV]
  by_cases a:i<n
  · rw[if_pos a,← bS];exact b i a
  · rw[if_neg a];exact Ac (by omega)
 subst e
 have:rng (n:Int)=some ():=by
  unfold rng
  first
   | rfl
   | rw[if_pos (by omega)]
 rw[this];rfl
omit h in
theorem yJ (v:Int):In (bO n true) v↔0<=v/\v<n:=by
 constructor
 · intro h
   have:=cX h
   simpa using this
 · rintro⟨h0,h1⟩
   unfold In
   rw[cz h0,hV,if_pos (by omega)]
end
end Go.Proofs.YtleekpaohfpooaaGreat
set_option linter.unusedVariables false
set_option linter.unusedSimpArgs false
namespace Go.Proofs.YtleekpaohfpooaaGreat
open Go Go.Wk Go.Proofs
open Classical
noncomputable def wonL (n:Nat) (W:Int->Prop):List Int:=(List.range n).map λ(v:Nat)=>b2i (decide (¬W (v:Int)))
theorem qg (n:Nat) (W:Int->Prop):(wonL n W).length=n:=by unfold wonL;rw[Ah,List.length_range]
theorem tM {n:Nat}{W:Int->Prop}{v:Nat}(h:v<n):(wonL n W)[v]? =some (b2i (decide (¬W (v:Int)))):=by
 unfold wonL
 rw[List.getElem?_map,List.getElem?_range h];rfl
theorem yA {n:Nat}{W:Int->Prop}{l:List Int}(hl:l.length=n) (h:∀v:Nat,v<n->l[v]? =some (b2i (decide (¬W (v:Int))))):l=wonL n W:=by
 apply List.ext_getElem?
 intro i
 by_cases a:i<n
 · rw[h i a,tM a]
 · rw[Ac (by omega),Ac (by rw[qg];omega)]
theorem pM {g:Parity}{n:Nat}(h:GOk g n) (hr:∀v r,idx g.Arena.Next v=some r->r≠[]):Par.NoDead (gI g) (λv=>0<=v/\v<n):=λv ⟨b,c⟩=>by
 obtain⟨r,a⟩:=cF (xs:=g.Arena.Next) b (by have:=h.ln;omega)
 cases r with
 | nil=>exact absurd rfl (hr v [] a)
 | cons u us=>
  refine⟨u,?_,(h.row v _ a).2.2 u (List.mem_cons_self ..)⟩
  show u∈eB g.Arena v
  rw[fh a];exact List.mem_cons_self ..
theorem qY {g:Parity}(hp:c9 g=true):∀v r,idx g.Arena.Next v=some r->r≠[]:=λv r hr e=>by
 obtain⟨h1,h2,d,f,a⟩:=eS hp
 obtain⟨c,_⟩:=cX hr
 obtain⟨i,b⟩:=cY c
 subst b
 rw[bS]at hr
 have:=(a i r hr).1
 rw[e]at this
 simp at this
end Go.Proofs.YtleekpaohfpooaaGreat
set_option linter.unusedVariables false
set_option linter.unusedSimpArgs false
namespace Go.Proofs.YtleekpaohfpooaaGreat.Par
open Classical
variable {G H:Gm}{X Y C T W W' D:Int->Prop}{p:Bool}{w w':Int->Bool}{k k':Int->Int}
theorem Dom.self (h:Dom G X p D):Dom G D p D:=by
 obtain⟨d,a1,a2,e,a⟩:=h
 exact⟨d,λv c=>c,a2,λv u _ _ _ b=>b,a⟩
theorem Dom.congrG (h:Dom G X p D) (f:∀v,D v->H.own v=G.own v) (hp:∀v,D v->H.pri v=G.pri v) (hE:∀v u,D v->(H.E v u↔G.E v u)):Dom H X p D:=by
 obtain⟨g,a1,a2,i,j⟩:=h
 refine⟨g,a1,λv b a=>?_,λv u b a o hx=>?_,λπ hπ=>?_⟩
 · rw[f v b]at a
   have:=a2 v b a
   exact⟨(hE v _ b).2 this.1,this.2⟩
 · rw[f v b]at a
   exact i v u b a ((hE v u b).1 o) hx
 · have q:Play G p D g π:=λn=>by
    obtain⟨c,k,l⟩:=hπ n
    exact⟨c,(hE _ _ c).1 k,λa=>l (by rw[f _ c];exact a)⟩
   obtain⟨d,c1,c2,N,m⟩:=j π q
   have e:∀n,H.pri (π n)=G.pri (π n):=λn=>hp _ (hπ n).1
   exact⟨d,c1,λM=>by obtain⟨n,k1,r⟩:=c2 M;exact⟨n,k1,by rw[e];exact r⟩,N,λn hn=>by rw[e];exact m n hn⟩
theorem Sol.congrG (h:Sol G X p W) (b:∀v,X v->H.own v=G.own v) (hp:∀v,X v->H.pri v=G.pri v) (hE:∀v u,X v->(H.E v u↔G.E v u)):Sol H X p W:=
 ⟨h.sub,h.mine.congrG (λv a=>b v (h.sub v a)) (λv a=>hp v (h.sub v a)) (λv u a=>hE v u (h.sub v a)),
  h.yours.congrG (λv a=>b v a.1) (λv a=>hp v a.1) (λv u a=>hE v u a.1)⟩
theorem hold_iff {R:Int->Prop}{q:Bool}(hs:Sol G Y false R):(∀x,Y x->(R x↔q=false))↔Dom G Y q Y:=by
 constructor
 · intro h
   cases q with
   | false=>exact hs.mine.congr λv=>⟨hs.sub v,λa=>(h v a).2 rfl⟩
   | true=>exact hs.yours.congr λv=>⟨λa=>a.1,λa=>⟨a,λhr=>absurd ((h v a).1 hr) (by decide)⟩⟩
 · intro h x hx
   have:=hs.uniq ((Sol.all h).asP false) x
   rw[this]
   exact⟨λh=>(h.2.1 hx).symm,λe=>⟨hx,λ_=>e.symm,λ_=>hx⟩⟩
def pickG (G:Gm) (k:Int->Int):Gm:=⟨G.own,G.pri,λv u=>G.E v u/\(k v<0\/k v=u)⟩
def Rg (X:Int->Prop) (w:Int->Bool) (q:Bool):Int->Prop:=λv=>X v/\w v=q
def updF (k:Int->Int) (v u:Int):Int->Int:=λx=>if x=v then u else k x
structure PInv (G:Gm) (X:Int->Prop) (w:Int->Bool) (k:Int->Int):Prop where
 pick:∀v,0<=k v->X v/\G.own v=w v/\G.E v (k v)/\X (k v)/\w (k v)=w v
 dom:∀q,Dom (pickG G k) (Rg X w q) q (Rg X w q)
 yours:∀v u,X v->¬G.own v=w v->G.E v u->X u->w u=w v
theorem Sol.rg (h:Sol G X false W) (b:∀v,X v->(w v=false↔W v)) (q:Bool):Dom G X q (Rg X w q):=by
 cases q with
 | false=>exact h.mine.congr λv=>⟨λa=>⟨h.sub v a,(b v (h.sub v a)).2 a⟩,λa=>(b v a.1).1 a.2⟩
 | true=>exact h.yours.congr λv=>⟨λa=>⟨a.1,by
  cases e:w v with
  | true=>rfl
  | false=>exact absurd ((b v a.1).1 e) a.2⟩,λa=>⟨a.1,λc=>by
  have:=(b v a.1).2 c
  rw[a.2]at this
  cases this⟩⟩
theorem PInv.start (h:Sol G X false W) (b:∀v,X v->(w v=false↔W v)) (hk:∀v,k v<0):PInv G X w k:=by
 refine⟨λv a=>absurd (hk v) (by omega),λq=>((h.rg b q).self).congrG (λ_ _=>rfl) (λ_ _=>rfl) λv u _=>⟨λh=>h.1,λh=>⟨h,.inl (hk v)⟩⟩,λv u a e d f=>?_⟩
 obtain⟨i,a1,a2,c,g⟩:=h.rg b (w v)
 exact(c v u ⟨a,rfl⟩ e d f).2
theorem PInv.ex (hI:PInv G X w k){v:Int}(p:X v) (o:G.own v=w v) (hk:k v<0):∃u,G.E v u/\X u/\w u=w v/\Dom (pickG G (updF k v u)) (Rg X w (w v)) (w v) (Rg X w (w v)):=by
 obtain⟨f,a1,a2,q,g⟩:=hI.dom (w v)
 obtain⟨⟨j,_⟩,l,m⟩:=a2 v ⟨p,rfl⟩ o
 refine⟨f v,j,l,m,f,a1,λx hx d=>?_,λx y hx d r hy=>hy,λπ hπ=>g π λn=>?_⟩
 · obtain⟨⟨b,c⟩,a⟩:=a2 x hx d
   refine⟨⟨b,?_⟩,a⟩
   unfold updF
   by_cases e:x=v
   · rw[if_pos e,e];exact .inr rfl
   · rw[if_neg e];exact c
 · obtain⟨b,⟨c,a⟩,i⟩:=hπ n
   refine⟨b,⟨c,?_⟩,i⟩
   unfold updF at a
   by_cases e:π n=v
   · rw[e];exact .inl hk
   · rwa [if_neg e]at a
theorem PInv.step (hI:PInv G X w k){v u:Int}(d:X v) (c:G.own v=w v) (h1:G.E v u) (h2:X u) (b:w u=w v) (hd:Dom (pickG G (updF k v u)) (Rg X w (w v)) (w v) (Rg X w (w v))):PInv G X w (updF k v u):=by
 refine⟨λx hx=>?_,λq=>?_,hI.yours⟩
 · by_cases e:x=v
   · subst e
     have:updF k x u x=u:=if_pos rfl
     rw[this];exact⟨d,c,h1,h2,b⟩
   · have:updF k v u x=k x:=if_neg e
     rw[this]at hx ⊢;exact hI.pick x hx
 · by_cases e:q=w v
   · subst e;exact hd
   · refine(hI.dom q).congrG (λ_ _=>rfl) (λ_ _=>rfl) λx y hx=>?_
     have:x≠v:=λa=>e (by rw[← hx.2,a])
     have:updF k v u x=k x:=if_neg this
     show _/\_↔_/\_
     rw[this]
theorem PInv.noDead (hI:PInv G X w k) (j:NoDead G X){v u:Int}(h1:G.E v u) (h2:X u) (i:w u=w v) (q:Bool):NoDead (pickG G (updF k v u)) (Rg X w q):=λx ⟨hx,a⟩=>by
 by_cases e:x=v
 · subst e;exact⟨u,⟨h1,.inr (if_pos rfl)⟩,h2,by rw[i,a]⟩
 · have c:updF k v u x=k x:=if_neg e
   by_cases b:G.own x=w x
   · obtain⟨l,_,a2,_⟩:=hI.dom q
     obtain⟨⟨d,f⟩,g⟩:=a2 x ⟨hx,a⟩ (by show G.own x=q;rw[b,a])
     exact⟨l x,⟨d,by rw[c];exact f⟩,g⟩
   · obtain⟨y,c1,c2⟩:=j x hx
     refine⟨y,⟨c1,.inl ?_⟩,c2,by rw[hI.yours x y hx b c1 c2,a]⟩
     rw[c]
     apply Classical.byContradiction
     intro hn
     exact b (hI.pick x (by omega)).2.1
inductive Rch (H:Gm) (Y:Int->Prop):Int->Int->Prop
 | refl {v:Int}:Y v->Rch H Y v v
 | step {v u x:Int}:Y v->H.E v u->Rch H Y u x->Rch H Y v x
def Loop (H:Gm) (Y:Int->Prop) (v:Int):Prop:=∃u,H.E v u/\Rch H Y u v
theorem Rch.fst {v x:Int}(h:Rch H Y v x):Y v:=by cases h <;> assumption
theorem Rch.lst {v x:Int}(h:Rch H Y v x):Y x:=by induction h with
 | refl h=>exact h
 | step _ _ _ a=>exact a
theorem Rch.snoc {v x y:Int}(h:Rch H Y v x) (a:H.E x y) (hy:Y y):Rch H Y v y:=by induction h with
 | refl h=>exact .step h a (.refl hy)
 | step h1 h2 _ b=>exact .step h1 h2 (b a)
theorem Rch.mono {H':Gm}{Y':Int->Prop}{v x:Int}(h:Rch H Y v x) (hy:∀a,Y a->Y' a) (d:∀a b,Y a->Y b->H.E a b->H'.E a b):Rch H' Y' v x:=by induction h with
 | refl h=>exact .refl (hy _ h)
 | step h1 h2 c e=>exact .step (hy _ h1) (d _ _ h1 c.fst h2) e
theorem Loop.mono {H':Gm}{Y':Int->Prop}{v:Int}(h:Loop H Y v) (hy:∀a,Y a->Y' a) (c:∀a b,Y a->Y b->H.E a b->H'.E a b):Loop H' Y' v:=by
 obtain⟨u,h1,h2⟩:=h
 exact⟨u,c v u h2.lst h2.fst h1,h2.mono hy c⟩
theorem Rch.path {v x:Int}(h:Rch H Y v x):∃(m:Nat) (f:Nat->Int),f 0=v/\f m=x/\(∀i,i<m->H.E (f i) (f (i+1)))/\∀i,i<=m->Y (f i):=by induction h with
 | @refl v h=>exact⟨0,λ_=>v,rfl,rfl,λi a=>absurd a (Nat.not_lt_zero i),λ_ _=>h⟩
 | @step v u x h1 h2 _ d=>
  obtain⟨m,f,a1,a2,b,c⟩:=d
  refine⟨m+1,λi=>match i with | 0=>v | i+1=>f i,rfl,a2,λi a=>?_,λi a=>?_⟩
  · cases i with
    | zero=>show H.E v (f 0);rw[a1];exact h2
    | succ i=>exact b i (by omega)
  · cases i with
    | zero=>exact h1
    | succ i=>exact c i (by omega)
theorem Rch.ofPath {f:Nat->Int}(b:∀i,H.E (f i) (f (i+1))){a:Nat}(hy:∀i,a<=i->Y (f i)) (m:Nat):Rch H Y (f a) (f (a+m)):=by induction m with
 | zero=>exact .refl (hy a (by omega))
 | succ m c=>exact c.snoc (b _) (hy _ (by omega))
def Io (S:Nat->Prop):Prop:=∀N,∃m,N<=m/\S m
theorem Io.val {f:Nat->Int}:∀(n:Nat){S:Nat->Prop},Io S->(∀m,S m->0<=f m/\f m<n)->∃v,Io λm=>S m/\f m=v:=by
 intro n
 induction n with
 | zero=>
  intro S a hb
  obtain⟨m,_,hm⟩:=a 0
  have:=hb m hm
  omega
 | succ n g=>
  intro S a hb
  by_cases h:Io λm=>S m/\f m=(n:Int)
  · exact⟨n,h⟩
  · obtain⟨N,c⟩:=Classical.not_forall.1 h
    obtain⟨v,d⟩:=g (S:=λm=>S m/\N<=m) (λM=>by
     obtain⟨m,h1,h2⟩:=a (max M N)
     exact⟨m,by omega,h2,by omega⟩) (λm hm=>by
     have:=hb m hm.1
     have:¬f m=(n:Int):=λe=>c ⟨m,hm.2,hm.1,e⟩
     omega)
    exact⟨v,λM=>by
     obtain⟨m,h1,h2,b⟩:=d M
     exact⟨m,h1,h2.1,b⟩⟩
theorem xM {f:Nat->Int}:∀(b:Nat) (N:Nat),(∀m,N<=m->0<=f m/\f m<b)->∃d,(∀N,∃n,N<=n/\f n=d)/\∃N,∀n,N<=n->f n<=d:=by
 intro b
 induction b with
 | zero=>
  intro N h
  have:=h N (by omega)
  omega
 | succ b c=>
  intro N h
  by_cases a:∀N,∃n,N<=n/\f n=(b:Int)
  · exact⟨b,a,N,λn hn=>by have:=h n hn;omega⟩
  · obtain⟨M,hM⟩:=Classical.not_forall.1 a
    refine c (max N M) λm hm=>?_
    have:=h m (by omega)
    have:¬f m=(b:Int):=λe=>hM ⟨m,by omega,e⟩
    omega
structure Ans (G:Gm) (X:Int->Prop) (w:Int->Bool) (k:Int->Int):Prop where
 mine:∀v,X v->G.own v=w v->0<=k v/\G.E v (k v)/\X (k v)/\w (k v)=w v
 free:∀v,X v->¬G.own v=w v->k v<0
 yours:∀v u,X v->¬G.own v=w v->G.E v u->X u->w u=w v
 noloop:∀v,X v->¬oddP (G.pri v)=w v->¬Loop (pickG G k) (λx=>Rg X w (w v) x/\G.pri x<=G.pri v) v
theorem Ans.wins (h:Ans G X w k){n b:Nat}(z:∀v,X v->0<=v/\v<n) (hp:∀v,X v->0<=G.pri v/\G.pri v<b){q:Bool}{π:Nat->Int}(hπ:Play G q (Rg X w q) k π):Wins G q π:=by
 obtain⟨d,o,N,p⟩:=xM (f:=λn=>G.pri (π n)) b 0 λm _=>hp _ (hπ m).1.1
 refine⟨d,?_,o,N,p⟩
 apply Classical.byContradiction
 intro hd
 obtain⟨v,s⟩:=Io.val (f:=π) n (S:=λm=>N<=m/\G.pri (π m)=d) (λM=>by
  obtain⟨m,h1,h2⟩:=o (max M N)
  exact⟨m,by omega,by omega,h2⟩) (λm _=>z _ (hπ m).1.1)
 obtain⟨c,_,⟨c1,c2⟩,e⟩:=s 0
 obtain⟨j,A,_,y⟩:=s (c+1)
 have c2:G.pri (π c)=d:=c2
 rw[e]at c2
 have g:Rg X w q v:=by rw[← e];exact(hπ c).1
 have hE:∀i,(pickG G k).E (π i) (π (i+1)):=λi=>by
  obtain⟨l,t,u⟩:=hπ i
  refine⟨t,?_⟩
  by_cases r:G.own (π i)=q
  · exact .inr (u r).symm
  · exact .inl (h.free _ l.1 (by rw[l.2];exact r))
 have hr:=Rch.ofPath (H:=pickG G k) (Y:=λx=>Rg X w (w v) x/\G.pri x<=G.pri v) (f:=π) hE (a:=c+1) (λi B=>⟨by rw[g.2];exact(hπ i).1,by rw[c2];exact p i (by omega)⟩) (j-(c+1))
 rw[show c+1+(j-(c+1))=j from by omega,y]at hr
 refine h.noloop v g.1 (by rw[g.2,c2];exact hd) ⟨π (c+1),?_,hr⟩
 have:=hE c
 rwa [e]at this
theorem Ans.dom (h:Ans G X w k){n b:Nat}(f:∀v,X v->0<=v/\v<n) (hp:∀v,X v->0<=G.pri v/\G.pri v<b) (q:Bool):Dom G X q (Rg X w q):=by
 refine⟨k,λv a=>a.1,λv a c=>?_,λv u a c g hx=>⟨hx,?_⟩,λπ hπ=>h.wins f hp hπ⟩
 · obtain⟨a1,a2,d,e⟩:=h.mine v a.1 (by rw[c,a.2])
   exact⟨a2,d,by rw[e,a.2]⟩
 · rw[h.yours v u a.1 (by rw[a.2];exact c) g hx,a.2]
theorem Ans.sol (h:Ans G X w k){n b:Nat}(a:∀v,X v->0<=v/\v<n) (hp:∀v,X v->0<=G.pri v/\G.pri v<b):Sol G X false (Rg X w false):=by
 refine⟨λv d=>d.1,h.dom a hp false,(h.dom a hp true).congr λv=>?_⟩
 constructor
 · rintro⟨h1,h2⟩
   exact⟨h1,λc=>absurd (h2.symm.trans c.2) (by decide)⟩
 · rintro⟨h1,h2⟩
   refine⟨h1,?_⟩
   cases e:w v with
   | true=>rfl
   | false=>exact absurd ⟨h1,e⟩ h2
theorem PInv.ans (hI:PInv G X w k) (hk:∀v,X v->G.own v=w v->0<=k v):Ans G X w k:=by
 refine⟨λv o b=>⟨hk v o b,(hI.pick v (hk v o b)).2.2⟩,λv o b=>?_,hI.yours,λv o b hl=>?_⟩
 · apply Classical.byContradiction
   intro hn
   exact b (hI.pick v (by omega)).2.1
 · obtain⟨H,a1,a2,I,A⟩:=hI.dom (w v)
   obtain⟨u,n,hr⟩:=hl
   obtain⟨m,J,K,M,L,O⟩:=(Rch.step hr.lst n hr).path
   -- the loop has at least one step
   have hm:0<m\/True:= .inr trivial
   obtain⟨a,g,q,l,x,F⟩:=hr.path
   let π:Nat->Int:=λi=>if i % (a+1)=0 then v else g (i % (a+1)-1)
   have j:∀i,i % (a+1)=0->π i=v:=λi r=>if_pos r
   have p:∀i,i % (a+1)≠0->π i=g (i % (a+1)-1):=λi r=>if_neg r
   have f:∀i,Rg X w (w v) (π i)/\G.pri (π i)<=G.pri v:=λi=>by
    by_cases e:i % (a+1)=0
    · rw[j i e];exact hr.lst
    · rw[p i e]
      exact F _ (by have:=Nat.mod_lt i (show 0<a+1 by omega);omega)
   have hE:∀i,(pickG G k).E (π i) (π (i+1)):=λi=>by
    have P:=Nat.mod_lt i (show 0<a+1 by omega)
    have hs:(i+1) % (a+1)=if i % (a+1)=a then 0 else i % (a+1)+1:=by
     rw[Nat.add_mod]
     by_cases e:i % (a+1)=a
     · rw[if_pos e,e]
       cases a with
       | zero=>simp
       | succ a=>rw[Nat.mod_eq_of_lt (show 1<a+1+1 by omega),Nat.mod_self]
     · rw[if_neg e,Nat.mod_eq_of_lt (show 1<a+1 by omega),Nat.mod_eq_of_lt (by omega)]
    by_cases e:i % (a+1)=a
    · rw[if_pos e]at hs
      rw[j (i+1) hs]
      by_cases c:i % (a+1)=0
      · rw[j i c]
        have:a=0:=by omega
        subst this
        rw[← l,q]at n ⊢
        rw[q]at l
        rw[← l]at *
        exact n
      · rw[p i c,e,← l]
        have:=x (a-1) (by omega)
        rwa [show a-1+1=a from by omega]at this
    · rw[if_neg e]at hs
      rw[p (i+1) (by omega),hs]
      by_cases c:i % (a+1)=0
      · rw[j i c,c,Nat.zero_add,Nat.sub_self,q];exact n
      · rw[p i c]
        have:=x (i % (a+1)-1) (by omega)
        rwa [show i % (a+1)-1+1=i % (a+1)+1-1 from by omega]at this
   have hπ:Play (pickG G k) (w v) (Rg X w (w v)) H π:=λi=>by
    refine⟨(f i).1,hE i,λy=>?_⟩
    have b:G.own (π i)=w (π i):=by rw[(f i).1.2];exact y
    have h0:=hk _ (f i).1.1 b
    have D:=(hE i).2.resolve_left (by omega)
    have E:=(a2 _ (f i).1 y).1.2.resolve_left (by omega)
    rw[← D,← E]
   obtain⟨d,t,B,N,C⟩:=A π hπ
   obtain⟨i,Q,z⟩:=B N
   have R:=(f i).2
   have s:=C ((a+1) * N) (by
    have:=Nat.le_mul_of_pos_left N (show 0<a+1 by omega)
    exact this)
   rw[j _ (Nat.mul_mod_right _ _)]at s
   have z:G.pri (π i)=d:=z
   have s:G.pri v<=d:=s
   have:d=G.pri v:=by omega
   rw[this]at t
   exact b t
end Go.Proofs.YtleekpaohfpooaaGreat.Par
set_option linter.unusedVariables false
set_option linter.unusedSimpArgs false
namespace Go.Proofs.YtleekpaohfpooaaGreat
open Go Go.Wk Go.Proofs
open Classical
def pkL (k:List Int) (v:Int):Int:=(idx k v).getD (-1)
theorem nv {k:List Int}{v x:Int}(h:idx k v=some x):pkL k v=x:=by unfold pkL;rw[h];rfl
theorem vd {k k':List Int}{v u:Int}(h:setI k v u=some k'):pkL k'=Par.updF (pkL k) v u:=by
 funext w
 unfold pkL Par.updF
 rw[dq h]
 by_cases e:w=v
 · rw[if_pos e,if_pos e];rfl
 · rw[if_neg e,if_neg e]
theorem nS {k:List Int}{n:Nat}(hk:k.length=n){v:Int}(h0:0<=v) (h1:v<n):idx k v=some (pkL k v):=by
 obtain⟨x,hx⟩:=cF (xs:=k) h0 (by omega)
 rw[nv hx];exact hx
def Xn (n:Nat):Int->Prop:=λv=>0<=v/\v<n
theorem qW {a:Arena}{v:Int}(h:idx a.Next v=none):eB a v=[]:=by unfold eB;rw[h];rfl
section
variable {g:Parity}{n:Nat}(h:GOk g n)
include h
theorem zH {v u:Int}(a:(gI g).E v u):Xn n v/\Xn n u:=by
 have a:u∈eB g.Arena v:=a
 cases hr:idx g.Arena.Next v with
 | none=>rw[qW hr]at a;cases a
 | some r=>
  rw[fh hr]at a
  obtain⟨b,c⟩:=cX hr
  have:=h.ln
  exact⟨⟨b,by omega⟩,(h.row v r hr).2.2 u a⟩
theorem xJ (P:List (List Int)){k:List Int}(hk:k.length=n):gS ⟨g.Arena.Owner,g.Prio,g.Arena.Next,P,k⟩=Par.pickG (gI g) (pkL k):=by
 unfold gS gI Par.pickG mkG
 dsimp only
 congr 1
 funext v u
 apply propext
 cases hr:idx g.Arena.Next v with
 | none=>
  rw[qW hr]
  unfold rowS
  dsimp only
  rw[hr]
  simp
 | some r=>
  obtain⟨b,c⟩:=cX hr
  have a:=nS hk b (by have:=h.ln;omega)
  rw[fh hr,rS (x:=⟨g.Arena.Owner,g.Prio,g.Arena.Next,P,k⟩) hr a,List.mem_filter]
  unfold okE
  simp
end
theorem yu {x:l7Game}{n:Nat}(wf:WfS x n) (hp:PriOk x.prio){B:List Bool}(hB:B.length=n) (e:Par.NoDead (gS x) (In B)) (q:Bool):lz x B (b2i q)=some (decide (Par.Dom (gS x) (In B) q (In B))):=by
 have hn:=wf.n256
 obtain⟨R,l,t,m⟩:=yH wf hp n B (2 ^ 64) hB e (by have:=lG B;omega) (by omega)
 unfold lz
 rw[l,bI]
 have g:=Par.hold_iff (q:=q) m
 have k:=kT (f:=iQ B (b2i q) R) (r:=false) (λi b=> !(b&&(decide (In R (i:Int)) != !q))) (xs:=B) (n:=B.length) rfl (λi b hb=>by
  have s:=(bK.1 hb).1
  unfold iQ
  rw[bS,hb,bI,dz (B:=R) (by omega) (by omega),bI,pe]
  cases b <;> cases(decide (In R (i:Int)) != !q) <;> rfl)
 rw[k,bI]
 have:(B.zipIdx.all λp=> !(p.1&&(decide (In R (p.2:Int)) != !q)))=decide (Par.Dom (gS x) (In B) q (In B)):=by
  rw[Ab,decide_eq_true_iff,← g,List.all_eq_true]
  constructor
  · intro ha v c
    obtain⟨o,u⟩:=eM hB c
    obtain⟨i,j⟩:=cY o
    subst j
    have d:idx B (i:Int)=some true:=c
    rw[bS]at d
    have:=ha (true,i) (by rw[List.mem_zipIdx_iff_getElem?];exact d)
    dsimp only at this
    by_cases a:In R (i:Int)
    · rw[decide_eq_true a]at this
      cases q with
      | true=>simp at this
      | false=>exact⟨λ_=>rfl,λ_=>a⟩
    · rw[decide_eq_false a]at this
      cases q with
      | true=>exact⟨λh=>absurd h a,λh=>absurd h (by decide)⟩
      | false=>simp at this
  · rintro hm ⟨b,i⟩ hp
    rw[List.mem_zipIdx_iff_getElem?]at hp
    dsimp only at hp ⊢
    cases b with
    | false=>rfl
    | true=>
     have c:In B (i:Int):=by unfold In;rw[bS];exact hp
     have:=hm _ c
     by_cases a:In R (i:Int)
     · rw[decide_eq_true a,this.1 a];rfl
     · rw[decide_eq_false a]
       cases q with
       | true=>rfl
       | false=>exact absurd (this.2 rfl) a
 rw[this]
 cases decide (Par.Dom (gS x) (In B) q (In B)) <;> rfl
end Go.Proofs.YtleekpaohfpooaaGreat
set_option linter.unusedVariables false
set_option linter.unusedSimpArgs false
namespace Go.Proofs.YtleekpaohfpooaaGreat
open Go Go.Wk Go.Proofs
open Classical
noncomputable def wB (W:Int->Prop) (v:Int):Bool:=decide (¬W v)
theorem xu {W:Int->Prop}{v:Int}:wB W v=false↔W v:=by unfold wB;simp
theorem qf {n:Nat}{W:Int->Prop}{v:Int}(h:Xn n v):idx (wonL n W) v=some (b2i (wB W v)):=by
 obtain⟨h0,h1⟩:=h
 obtain⟨i,a⟩:=cY h0
 subst a
 rw[bS,tM (by omega)];rfl
theorem re {k:Int->Int}{v a b:Int}:Par.updF (Par.updF k v a) v b=Par.updF k v b:=by
 funext x
 unfold Par.updF
 by_cases e:x=v
 · rw[if_pos e,if_pos e]
 · rw[if_neg e,if_neg e,if_neg e]
theorem wd {k:Int->Int}{v a:Int}(h:k v=a):Par.updF k v a=k:=by
 funext x
 unfold Par.updF
 by_cases e:x=v
 · rw[if_pos e,e,h]
 · rw[if_neg e]
theorem yf {a b:List Int}{n:Nat}(ha:a.length=n) (hb:b.length=n) (h:pkL a=pkL b):a=b:=by
 apply List.ext_getElem?
 intro i
 by_cases c:i<n
 · have h1:=nS ha (v:=(i:Int)) (by omega) (by omega)
   have h2:=nS hb (v:=(i:Int)) (by omega) (by omega)
   rw[bS]at h1 h2
   rw[h1,h2,h]
 · rw[Ac (by omega),Ac (by omega)]
theorem sL {C:Int->Prop}:∀{row:List Int},(∃u,u∈row/\C u)->∃(i:Nat) (u:Int),row[i]? =some u/\C u/\∀(j:Nat) y,j<i->row[j]? =some y->¬C y
 | [],h=>by obtain⟨u,a,_⟩:=h;cases a
 | x::r,h=>by
  by_cases hx:C x
  · exact⟨0,x,rfl,hx,λj y hj=>absurd hj (Nat.not_lt_zero j)⟩
  · obtain⟨i,u,h1,h2,b⟩:=sL (C:=C) (row:=r) (by
     obtain⟨u,a,hc⟩:=h
     rcases List.mem_cons.1 a with e | e
     · subst e;exact absurd hc hx
     · exact⟨u,e,hc⟩)
    refine⟨i+1,u,by simpa using h1,h2,λj y hj hy=>?_⟩
    cases j with
    | zero=>
     have:x=y:=by simpa using hy
     subst this;exact hx
    | succ j=>exact b j y (by omega) (by simpa using hy)
theorem vb {g:Parity}{n:Nat}(h:GOk g n){v:Int}(b:Xn n v):idx g.Arena.Owner v=some (b2i ((gI g).own v)):=by
 obtain⟨o,a⟩:=cF (xs:=g.Arena.Owner) (i:=v) b.1 (by have:=h.lo;have:=b.2;omega)
 rw[a]
 show _=some (b2i (ownL g.Arena.Owner v))
 unfold ownL
 rw[a]
 rcases h.ow v o a with rfl | rfl <;> rfl
end Go.Proofs.YtleekpaohfpooaaGreat
set_option linter.unusedVariables false
set_option linter.unusedSimpArgs false
namespace Go.Proofs.YtleekpaohfpooaaGreat
open Go Go.Wk Go.Proofs
open Classical
theorem tG {n:Nat}{W:Int->Prop}(hn:n<=256) (q:Bool):∃B,fQ (wonL n W) (b2i q)=some B/\B.length=n/\In B=Par.Rg (Xn n) (wB W) q:=by
 have hl:=qg n W
 unfold fQ
 rw[hl,dD (by omega) rfl,bI]
 obtain⟨s,h1,h2,a⟩:=fillB (f:=gE (wonL n W) (b2i q)) (Par.Rg (Xn n) (wB W) q) n (s0:=bO n false) (by simp) (λj s hj hs=>by
  have hx:Xn n (j:Int):=⟨by omega,by omega⟩
  unfold gE
  rw[qf hx,bI,uK]
  have:(wB W (j:Int)==q)=decide (Par.Rg (Xn n) (wB W) q (j:Int)):=by
   rw[Ab,decide_eq_true_iff]
   unfold Par.Rg
   simp[hx]
  rw[this]) (λv b=>b.1)
 rw[h1,bI,bV]
 exact⟨s,rfl,h2,funext λv=>propext (a v)⟩
section
variable {g:Parity}{n:Nat}(hp:c9 g=true) (hn:n=g.Prio.length){W:Int->Prop}(hW:Par.Sol (gI g) (Xn n) false W)
include hp hn hW
omit hW in
theorem zB {P:List (List Int)}(J:PrevT g.Arena.Next n n P){k:List Int}(hk:k.length=n) (hI:Par.PInv (gI g) (Xn n) (wB W) (pkL k)){v:Int}(a:Xn n v) (N:(gI g).own v=wB W v){row:List Int}(hr:idx g.Arena.Next v=some row){i:Nat}{u:Int}(h1:row[i]? =some u)
 (h2:wB W u=wB W v/\Par.Dom (Par.pickG (gI g) (Par.updF (pkL k) v u)) (Par.Rg (Xn n) (wB W) (wB W v)) (wB W v) (Par.Rg (Xn n) (wB W) (wB W v)))
 (G:∀(j:Nat) y,j<i->row[j]? =some y->¬(wB W y=wB W v/\Par.Dom (Par.pickG (gI g) (Par.updF (pkL k) v y)) (Par.Rg (Xn n) (wB W) (wB W v)) (wB W v) (Par.Rg (Xn n) (wB W) (wB W v))))
 {B:List Bool} (hB:B.length=n) (d:In B=Par.Rg (Xn n) (wB W) (wB W v)):
 ∃k',mD ⟨g.Arena.Owner,g.Prio,g.Arena.Next,P,k⟩ B v=some (u,k')/\k'.length=n/\pkL k'=Par.updF (pkL k) v u:=by
 have h:=GOk.of hp
 rw[← hn]at h
 have L:Par.NoDead (gI g) (Xn n):=pM h (qY hp)
 obtain⟨aa,ab,R⟩:=h.row v row hr
 have U:=(bK.1 h1).1
 have V:=h.n256
 unfold mD
 obtain⟨o,w1,m⟩:=cC (f:=jI ⟨g.Arena.Owner,g.Prio,g.Arena.Next,P,k⟩ B v) (λj (t:Int×List Int)=>t.1=(j:Int)/\j<=i/\t.2.length=n/\∃z,pkL t.2=Par.updF (pkL k) v z) (λ(t:Int×List Int)=>t.1=u/\t.2.length=n/\pkL t.2=Par.updF (pkL k) v u) (λ_=>False) i (λj t ⟨a1,a2,p,z,c⟩=>by
  obtain⟨Y,t⟩:=t
  dsimp only at a1 p c
  subst a1
  have hjl:j<row.length:=by omega
  have hy:row[j]? =some row[j]:=bJ hjl
  generalize row[j]=y at hy
  obtain⟨F,T⟩:=R y (bQ hy)
  have E:Xn n y:=⟨F,T⟩
  have Q:(gI g).E v y:=by show y∈eB g.Arena v;rw[fh hr];exact bQ hy
  unfold jI
  dsimp only
  rw[hr,bI,decide_eq_true (show(j:Int)<(row.length:Int) by omega),cond_true,bI,bS,hy,bI,dz (B:=B) F (by omega),bI]
  have H:decide (In B y)=(wB W y==wB W v):=by
   rw[Ab,decide_eq_true_iff,d]
   unfold Par.Rg
   simp[E]
  have C:IntKind.i64.wrap ((j:Int)+1)=((j+1:Nat):Int):=by rw[wr' (by omega) (by omega)];omega
  rw[H]
  cases hc:(wB W y==wB W v) with
  | false=>
   simp only[Bool.not_false,cond_true,C]
   have M:¬wB W y=wB W v:=by simpa using hc
   have:j≠i:=λe=>by subst e;rw[h1]at hy;cases hy;exact M h2.1
   exact⟨_,rfl,by omega,rfl,by omega,p,z,c⟩
  | true=>
   have D:wB W y=wB W v:=by simpa using hc
   obtain⟨Z,O⟩:=cF (xs:=t) (i:=v) a.1 (by have:=a.2;omega)
   obtain⟨t',A,X⟩:=dy (xs:=t) (i:=v) y a.1 (by have:=a.2;omega)
   have l:pkL t'=Par.updF (pkL k) v y:=by rw[vd A,c,re]
   have b:t'.length=n:=by omega
   have w:gS ⟨g.Arena.Owner,g.Prio,g.Arena.Next,P,t'⟩=Par.pickG (gI g) (Par.updF (pkL k) v y):=by rw[xJ h P b,l]
   have I:Par.NoDead (gS ⟨g.Arena.Owner,g.Prio,g.Arena.Next,P,t'⟩) (In B):=by
    rw[w,d]
    exact hI.noDead L Q E D _
   have x:=yu (h.wfS J b) h.pri hB I (wB W v)
   rw[w,d]at x
   simp only[zZ,cond_false]
   rw[O,bI,A,bI,vb h a,N,bI,x,bI]
   by_cases hd:Par.Dom (Par.pickG (gI g) (Par.updF (pkL k) v y)) (Par.Rg (Xn n) (wB W) (wB W v)) (wB W v) (Par.Rg (Xn n) (wB W) (wB W v))
   · rw[decide_eq_true hd,cond_true]
     have:¬j<i:=λK=>G j y K hy ⟨D,hd⟩
     have:j=i:=by omega
     subst this
     rw[h1]at hy;cases hy
     exact⟨_,rfl,rfl,b,l⟩
   · rw[decide_eq_false hd,cond_false,C]
     have:j≠i:=λe=>by subst e;rw[h1]at hy;cases hy;exact hd h2.2
     exact⟨_,rfl,by omega,rfl,by omega,b,y,l⟩) (2 ^ 64) 0 (0,k) (by omega) ⟨rfl,by omega,hk,pkL k v,(wd rfl).symm⟩ (by omega)
 match o,m with
 | .inl t,m=>
  obtain⟨q,r,s⟩:=m
  obtain⟨ac,S⟩:=t
  dsimp only at q r s
  subst q
  rw[w1,bI,mF]
  exact⟨S,rfl,r,s⟩
omit hp hn hW in
theorem nu {n:Nat}(v:Int):pkL (bO n (-1)) v= -1:=by
 unfold pkL
 cases h:idx (bO n (-1:Int)) v with
 | none=>rfl
 | some x=>
  obtain⟨a,b⟩:=cX h
  rw[cz a,hV]at h
  split at h
  · cases h;rfl
  · cases h
omit hW in
theorem ua {A:List Int}(c:jn g=some A) (q:A.length<=256):kh g (bO n (-1))=some true:=by
 have h:=GOk.of hp
 rw[← hn]at h
 obtain⟨h1,h2,m,o,p⟩:=eS hp
 have d:mt g (bO n (-1))=some (g,true):=by
  unfold mt
  rw[nc,hp,bI]
  have e:lD g (bO n (-1))=some true:=by
   unfold lD
   rw[List.length_replicate,← hn]
   have:=eN (f:=iR g (bO n (-1))) (r:=false) (λ_:Int=>true) (xs:=bO n (-1)) (n:=n) (by simp) (λi x hx=>by
    unfold iR
    have l:x= -1:=by
     rw[hV]at hx
     split at hx
     · cases hx;rfl
     · cases hx
    rw[bS,hx,bI,l];rfl)
   rw[this]
   simp only[bne_self_eq_false,cond_false,List.all_eq_true,implies_true,if_true,bI,bV]
  rw[e]
  simp only[zZ,cond_false,bI]
  rw[uA (by have:=h.lo;have:=h.n256;omega),bI,uA (by omega),bI,List.length_replicate]
  obtain⟨s,a,b⟩:=cv (f:=jv g (bO n (-1))) (λj (s:List (List Int))=>s=g.Arena.Next.take j) n (s:=[]) rfl (λj s hj hs=>by
   subst hs
   have hx:g.Arena.Next[j]? =some (g.Arena.Next[j]'(by have:=h.ln;omega)):=bJ (by have:=h.ln;omega)
   generalize g.Arena.Next[j]'(by have:=h.ln;omega)=row at hx
   obtain⟨t,_,_⟩:=h.row (j:Int) row (by rw[bS];exact hx)
   have hk:idx (bO n (-1:Int)) (j:Int)=some (-1):=by rw[bS,hV,if_pos hj]
   unfold jv
   rw[bS,hx,bI,uA (by omega),bI,hk,bI]
   simp only[show decide ((0:Int)<= -1)=false from rfl,cond_false,bI]
   rw[app1 (by rw[z9];omega) rfl,bI]
   refine⟨_,rfl,?_⟩
   rw[Ae,hx];rfl)
  rw[a,b,bI,bV,List.take_of_length_le (by have:=h.ln;omega)]
 unfold kh
 rw[d,bI]
 dsimp only
 rw[cond_true,c,bI,bI]
 have k:gF A A=some true:=by
  unfold gF
  have:=eN (f:=fR A A) (r:=false) (λ_:Int=>true) (xs:=A) (n:=A.length) rfl (λi x hx=>by
   unfold fR
   rw[bS,hx,bI,bI]
   simp)
  rw[this]
  simp only[bne_self_eq_false,cond_false,List.all_eq_true,implies_true,if_true,bI,bV]
 rw[k];rfl
end
end Go.Proofs.YtleekpaohfpooaaGreat
set_option linter.unusedVariables false
set_option linter.unusedSimpArgs false
namespace Go.Proofs.YtleekpaohfpooaaGreat
open Go Go.Wk Go.Proofs
open Classical
theorem tA {n:Nat}(hn:n<=256):mC (n:Int)=some (bO n (-1)):=by
 unfold mC
 have hr:rng (n:Int)=some ():=by
  unfold rng
  first
   | rfl
   | rw[if_pos (by omega)]
 rw[hr,bI,show Int.toNat ((n:Int)-0)=n from by omega]
 obtain⟨s,h1,h2⟩:=cv (f:=jH) (λj (s:List Int)=>s=bO j (-1)) n (s:=[]) rfl (λj s hj hs=>by
  subst hs
  unfold jH
  rw[app1 (by simp;omega) rfl,bI]
  exact⟨_,rfl,by rw[List.replicate_succ']⟩)
 rw[h1,bI,bV,h2]
structure Solv (g:Parity) (W:Int->Prop) (k:List Int):Prop where
 sol:Par.Sol (gI g) (Xn g.Prio.length) false W
 len:k.length=g.Prio.length
 pick:∀v x,idx k v=some x->x= -1\/0<=x
 ans:Par.Ans (gI g) (Xn g.Prio.length) (wB W) (pkL k)
end Go.Proofs.YtleekpaohfpooaaGreat
set_option linter.unusedVariables false
set_option linter.unusedSimpArgs false
namespace Go.Proofs.YtleekpaohfpooaaGreat
open Go Go.Wk Go.Proofs
def cO (xs:List Int) (v:Int):Int:=match xs.findIdx? (λx=>v==x) with | some i=>(i:Int) | none=> -1
theorem qR {xs:List Int}{v:Int}(h:v∉xs):cO xs v= -1:=by
 unfold cO
 have:xs.findIdx? (λx=>v==x)=none:=by
  rw[List.findIdx?_eq_none_iff]
  intro x hx
  simp only[beq_eq_false_iff_ne]
  exact λe=>h (e ▸ hx)
 rw[this]
theorem nU {xs:List Int}{v:Int}(h:v∈xs):∃i:Nat,cO xs v=(i:Int)/\i<xs.length/\xs[i]? =some v:=by
 unfold cO
 cases hf:xs.findIdx? (λx=>v==x) with
 | none=>
  rw[List.findIdx?_eq_none_iff]at hf
  have:=hf v h
  simp at this
 | some i=>
  rw[List.findIdx?_eq_some_iff_getElem]at hf
  obtain⟨h1,h2,_⟩:=hf
  refine⟨i,rfl,h1,?_⟩
  rw[bJ h1]
  have:=beq_iff_eq.1 h2
  rw[← this]
theorem td (xs:List Int) (v:Int):decide (cO xs v<0)= !decide (v∈xs):=by
 by_cases h:v∈xs
 · obtain⟨i,h1,_⟩:=nU h
   rw[h1]
   have:¬(i:Int)<0:=by omega
   simp[h,this]
 · rw[qR h]
   simp[h]
end Go.Proofs.YtleekpaohfpooaaGreat
set_option linter.unusedVariables false
set_option linter.unusedSimpArgs false
namespace Go.Proofs.YtleekpaohfpooaaGreat
open Go Go.Wk Go.Proofs
theorem lQ (xs:List Int) (v:Int):ib xs v=some (cO xs v):=by
 unfold ib cO
 rw[gU (f:=iG xs v) (λx=>v==x) (λi=>(i:Int)) (xs:=xs) (λi x hx=>by
  unfold iG
  rw[bS,hx,bI,show(x==v)=(v==x) from BEq.comm]
  cases v==x <;> rfl),bI]
 cases xs.findIdx? (λx=>v==x) <;> rfl
end Go.Proofs.YtleekpaohfpooaaGreat
set_option linter.unusedVariables false
set_option linter.unusedSimpArgs false
namespace Go.Proofs.YtleekpaohfpooaaGreat
open Go Go.Wk Go.Proofs
theorem sP (xs:List Int) (v:Int):cM xs v=some (cO xs v):=ik xs v
end Go.Proofs.YtleekpaohfpooaaGreat
set_option linter.unusedVariables false
set_option linter.unusedSimpArgs false
namespace Go.Proofs.YtleekpaohfpooaaGreat
open Go Go.Wk Go.Proofs
def addN (xs:List Int) (u:Int):List Int:=if u∈xs then xs else xs++[u]
theorem vP {xs:List Int}{u:Int}(h:u∉xs):cO (xs++[u]) u=(xs.length:Nat):=by
 unfold cO
 have:(xs++[u]).findIdx? (λx=>u==x)=some xs.length:=by
  rw[List.findIdx?_append]
  have h1:xs.findIdx? (λx=>u==x)=none:=by
   rw[List.findIdx?_eq_none_iff]
   intro x hx
   simp only[beq_eq_false_iff_ne]
   exact λe=>h (e ▸ hx)
  rw[h1]
  simp
 rw[this]
def Names (n:Nat) (xs:List Int):Prop:=xs.Nodup/\∀x∈xs,0<=x/\x<n
theorem Names.len {n:Nat}{xs:List Int}(h:Names n xs):xs.length<=n:=dP n xs h.1 h.2
theorem Names.add {n:Nat}{xs:List Int}(h:Names n xs){u:Int}(d:0<=u) (f:u<n):Names n (addN xs u)/\∀(k:Nat) v,xs[k]? =some v->(addN xs u)[k]? =some v:=by
 unfold addN
 by_cases b:u∈xs
 · rw[if_pos b];exact⟨h,λk v hk=>hk⟩
 · rw[if_neg b]
   refine⟨⟨?_,λx hx=>?_⟩,λk v hk=>?_⟩
   · rw[List.nodup_append]
     refine⟨h.1,by simp,λa ha c hc e=>?_⟩
     rw[z6]at hc
     exact b (by rw[← hc,← e];exact ha)
   · rw[Ad,z6]at hx
     rcases hx with hx | rfl
     · exact h.2 x hx
     · exact⟨d,f⟩
   · rw[List.getElem?_append_left (bK.1 hk).1];exact hk
theorem tc {xs:List Int}{v:Int}{j:Nat}(h:xs[j]? =some v) (hb:∀i,i<j->xs[i]?≠some v):cO xs v=(j:Int):=by
 have b:=(bK.1 h).1
 unfold cO
 have:xs.findIdx? (λx=>v==x)=some j:=by
  rw[List.findIdx?_eq_some_iff_getElem]
  refine⟨b,?_,λi a=>?_⟩
  · have:=(bK.1 h).2
    simp[this]
  · have h1:=hb i a
    rw[bJ (by omega)]at h1
    simp only[Bool.not_eq_true,beq_eq_false_iff_ne]
    exact λe=>h1 (by rw[e])
 rw[this]
end Go.Proofs.YtleekpaohfpooaaGreat
set_option linter.unusedVariables false
set_option linter.unusedSimpArgs false
namespace Go.Proofs.YtleekpaohfpooaaGreat
open Go Go.Wk Go.Proofs
theorem za {x k:Place}(h:(x.At==k.At&&x.Record==k.Record)=true):x=k:=by
 rw[sh,beq_iff_eq,beq_iff_eq]at h
 cases x
 cases k
 simp only at h
 rw[h.1,h.2]
def locR (K:List Place) (k:Place):Option Nat:=K.findIdx? (λx=>x.At==k.At&&x.Record==k.Record)
def addR (K:List Place) (k:Place):List Place:=match locR K k with | some _=>K | none=>K++[k]
def atR (K:List Place) (k:Place):Int:=match locR K k with | some i=>(i:Int) | none=>(K.length:Int)
theorem sB (K:List Place) (k:Place):K.length<=(addR K k).length/\(addR K k).length<=K.length+1:=by
 unfold addR
 cases locR K k <;> simp
theorem sA {K:List Place}{k:Place}{i:Nat}{v:Place}(h:K[i]? =some v):(addR K k)[i]? =some v:=by
 unfold addR
 cases locR K k with
 | some _=>exact h
 | none=>
  have:=(bK.1 h).1
  dsimp only
  rw[List.getElem?_append_left this];exact h
theorem wh {K:List Place}{k x:Place}(h:x∈addR K k):x∈K\/x=k:=by
 unfold addR at h
 cases e:locR K k with
 | some _=>rw[e]at h;exact .inl h
 | none=>rw[e]at h;simpa using h
theorem vK {K:List Place}{k:Place}{i:Nat}(h:locR K k=some i):K[i]? =some k:=by
 unfold locR at h
 obtain⟨h1,h2,a⟩:=List.findIdx?_eq_some_iff_getElem.1 h
 have:k=K[i]:=(za h2).symm
 rw[bJ h1,← this]
theorem vJ {K:List Place}{k:Place}(h:locR K k=none):k∉K:=λhm=>by
 unfold locR at h
 rw[List.findIdx?_eq_none_iff]at h
 have:=h k hm
 simp at this
theorem xD (K:List Place) (k:Place):0<=atR K k/\(addR K k)[(atR K k).toNat]? =some k:=by
 unfold atR addR
 cases h:locR K k with
 | none=>exact⟨by dsimp only;omega,by dsimp only;rw[Int.toNat_natCast];simp⟩
 | some i=>exact⟨by dsimp only;omega,by dsimp only;rw[Int.toNat_natCast];exact vK h⟩
theorem tR {K:List Place}(hn:K.Nodup) (k:Place):(addR K k).Nodup:=by
 unfold addR
 cases h:locR K k with
 | none=>
  dsimp only
  refine List.nodup_append.2 ⟨hn,by simp,λa ha b hb e=>?_⟩
  rw[z6]at hb
  exact vJ h (hb ▸ e ▸ ha)
 | some i=>exact hn
def fw (a:Nat->Place) (K:List Place):Nat->List Place×List Int
 | 0=>(K,[])
 | j+1=>(addR (fw a K j).1 (a j),(fw a K j).2++[atR (fw a K j).1 (a j)])
structure RowR (ky:Nat->Place) (K:List Place) (j:Nat) (K':List Place) (row:List Int):Prop where
 pre:∀(i:Nat) v,K[i]? =some v->K'[i]? =some v
 len:K.length<=K'.length
 le:K'.length<=K.length+j
 nod:K.Nodup->K'.Nodup
 rl:row.length=j
 at_:∀i:Nat,i<j->∃x,row[i]? =some x/\0<=x/\K'[x.toNat]? =some (ky i)
 mem:∀v∈K',v∈K\/∃i:Nat,i<j/\v=ky i
theorem mM (b:Nat->Place) (K:List Place):∀j,RowR b K j (fw b K j).1 (fw b K j).2
 | 0=>⟨λ_ _ h=>h,Nat.le_refl _,Nat.le_refl _,id,rfl,λi c=>absurd c (Nat.not_lt_zero i),λv h=> .inl h⟩
 | j+1=>by
  have h:=mM b K j
  unfold fw
  generalize fw b K j=F at *
  have hl:=sB F.1 (b j)
  obtain⟨f,a1⟩:=xD F.1 (b j)
  refine⟨λi v a=>sA (h.pre i v a),Nat.le_trans h.len hl.1,?_,λhn=>tR (h.nod hn) _,by simp[h.rl],λi c=>?_,λv a=>?_⟩
  · have:=h.le;dsimp only;omega
  · by_cases e:i=j
    · subst e
      refine⟨_,by rw[← h.rl];simp,f,a1⟩
    · obtain⟨x,d,l,m⟩:=h.at_ i (by omega)
      have g:=(bK.1 d).1
      exact⟨x,by rw[List.getElem?_append_left g];exact d,l,sA m⟩
  · rcases wh a with a | a
    · rcases h.mem v a with k | ⟨i,c,e⟩
      · exact .inl k
      · exact .inr ⟨i,by omega,e⟩
    · exact .inr ⟨j,by omega,a⟩
end Go.Proofs.YtleekpaohfpooaaGreat
set_option linter.unusedVariables false
set_option linter.unusedSimpArgs false
namespace Go.Proofs.YtleekpaohfpooaaGreat
open Go Go.Wk Go.Proofs
def cR (ps:List Pair) (v i:Int):Bool:=match idx ps i with | some p=>decide (v∈p.Give) | none=>false
def askI (ps:List Pair) (v i:Int):Bool:=match idx ps i with | some p=>decide (v∈p.Ask) | none=>false
def iv (ps:List Pair) (rc:List Int) (v:Int):List Int:=rc.filter (cR ps v)++rc.filter λi=> !cR ps v i
def cT (f:Int->Bool) (xs:List Int):Nat->Int
 | 0=> -1
 | j+1=>bif (match xs[j]? with | some x=>f x | none=>false) then(j:Int) else cT f xs j
def kF (ps:List Pair) (rc:List Int) (v:Int):Int:=
 bif decide (cT (askI ps v) rc rc.length<0)&&decide (cT (cR ps v) rc rc.length<0) then 0
 else bif decide (cT (cR ps v) rc rc.length<cT (askI ps v) rc rc.length) then 2 * cT (askI ps v) rc rc.length+1
 else 2 * cT (cR ps v) rc rc.length+2
theorem ir (f:Int->Bool) (xs:List Int):∀j:Nat,-1<=cT f xs j/\cT f xs j<j
 | 0=>by unfold cT;omega
 | j+1=>by
  have:=ir f xs j
  unfold cT
  cases(match xs[j]? with | some x=>f x | none=>false) with
  | true=>rw[cond_true];omega
  | false=>rw[cond_false];omega
theorem wX (ps:List Pair){rc:List Int}(v:Int) (h:rc.length<=4):inR 41 (kF ps rc v)=true:=by
 have a:=ir (askI ps v) rc rc.length
 have g:=ir (cR ps v) rc rc.length
 rw[fg]
 unfold kF
 generalize cT (askI ps v) rc rc.length=x at *
 generalize cT (cR ps v) rc rc.length=y at *
 by_cases h1:x<0
 · by_cases h2:y<0
   · simp[h1,h2]
   · by_cases b:y<x
     · omega
     · simp only[h1,h2,b,decide_true,decide_false,Bool.and_false,cond_false];omega
 · by_cases b:y<x
   · simp only[h1,b,decide_true,decide_false,Bool.false_and,cond_false,cond_true];omega
   · simp only[h1,b,decide_false,Bool.false_and,cond_false];omega
theorem lH (p:Int->Bool):∀xs:List Int,(xs.filter p).length+(xs.filter λx=> !p x).length=xs.length
 | []=>rfl
 | x::xs=>by
  have:=lH p xs
  simp only[List.filter_cons]
  cases p x <;> simp <;> omega
theorem sX (ps:List Pair){rc:List Int}{k:Nat}(v:Int) (hl:rc.length=k) (hr:∀x∈rc,0<=x/\x<(k:Int)):(iv ps rc v).length=k/\∀x∈iv ps rc v,0<=x/\x<(k:Int):=by
 unfold iv
 refine⟨by rw[z5,lH,hl],λx hx=>?_⟩
 rcases Ad.1 hx with h | h
 · exact hr x (List.mem_filter.1 h).1
 · exact hr x (List.mem_filter.1 h).1
theorem sW (ps:List Pair){rc:List Int}(v:Int) (h:rc.Nodup):(iv ps rc v).Nodup:=by
 unfold iv
 rw[List.nodup_append]
 refine⟨h.sublist List.filter_sublist,h.sublist List.filter_sublist,λa ha b hb e=>?_⟩
 subst e
 have h1:=(List.mem_filter.1 ha).2
 have h2:=(List.mem_filter.1 hb).2
 rw[h1]at h2
 cases h2
structure VOk (n k:Nat) (v:Place):Prop where
 a0:0<=v.At
 a1:v.At<(n:Int)
 rl:v.Record.length=k
 rin:∀x∈v.Record,0<=x/\x<(k:Int)
 nd:v.Record.Nodup
def kyR (ar rc:List Int) (i:Nat):Place:=⟨ar.getD i 0,rc⟩
structure RowP (P:List Place) (ar rc r:List Int):Prop where
 asc:Asc r
 len:r.length=ar.length
 to:∀y∈r,0<=y/\∃u∈ar,P[y.toNat]? =some ⟨u,rc⟩
 has:∀u∈ar,∃y∈r,0<=y/\P[y.toNat]? =some ⟨u,rc⟩
theorem RowP.mono {P P':List Place}{ar rc r:List Int}(h:RowP P ar rc r) (hp:∀(i:Nat) v,P[i]? =some v->P'[i]? =some v):RowP P' ar rc r:=
 ⟨h.asc,h.len,λy hy=>by
  obtain⟨a,u,b,c⟩:=h.to y hy
  exact⟨a,u,b,hp _ _ c⟩,λu d=>by
  obtain⟨y,a,b,c⟩:=h.has u d
  exact⟨y,a,b,hp _ _ c⟩⟩
theorem uw {ar rc:List Int}{P:List Place}(hn:ar.Nodup):(fw (kyR ar rc) P ar.length).2.Nodup:=by
 have r:=mM (kyR ar rc) P ar.length
 generalize fw (kyR ar rc) P ar.length=G at *
 have hrl:=r.rl
 refine List.pairwise_iff_getElem.2 λi j d hj f e=>?_
 obtain⟨x,a,_,k⟩:=r.at_ i (by omega)
 obtain⟨y,b,_,c⟩:=r.at_ j (by omega)
 rw[bJ d]at a
 rw[bJ hj]at b
 have g:x=y:=by rw[← Option.some.inj a,← Option.some.inj b];exact e
 subst g
 rw[k]at c
 have:=congrArg Place.At (Option.some.inj c)
 simp only[kyR,List.getD_eq_getElem?_getD,bJ (show i<ar.length by omega),bJ (show j<ar.length by omega),Option.getD_some]at this
 exact(List.pairwise_iff_getElem.1 hn) i j (by omega) (by omega) f this
theorem yr {ar rc:List Int}{P:List Place}{S:List Int}(f:Asc S) (hl:S.length=ar.length) (hm:∀y,y∈S↔y∈(fw (kyR ar rc) P ar.length).2):RowP (fw (kyR ar rc) P ar.length).1 ar rc S:=by
 have r:=mM (kyR ar rc) P ar.length
 generalize fw (kyR ar rc) P ar.length=G at *
 have hrl:=r.rl
 have g:∀i,i<ar.length->kyR ar rc i=⟨ar.getD i 0,rc⟩/\ar.getD i 0∈ar:=λi a=>⟨rfl,by
  rw[List.getD_eq_getElem?_getD,bJ a]
  exact List.getElem_mem a⟩
 refine⟨f,hl,λy hy=>?_,λu j=>?_⟩
 · obtain⟨i,a⟩:=List.getElem?_of_mem ((hm y).1 hy)
   have e:=(bK.1 a).1
   obtain⟨x,b,c,d⟩:=r.at_ i (by omega)
   rw[a]at b
   cases b
   obtain⟨k1,k⟩:=g i (by omega)
   exact⟨c,_,k,by rw[d,k1]⟩
 · obtain⟨i,a⟩:=List.getElem?_of_mem j
   have e:=(bK.1 a).1
   obtain⟨x,b,c,d⟩:=r.at_ i e
   refine⟨x,(hm x).2 (bQ b),c,?_⟩
   rw[d]
   unfold kyR
   rw[List.getD_eq_getElem?_getD,a];rfl
structure RecS (a:Arena) (ps:List Pair) (st:Place) (P:List Place) (i:Nat) (O:List Int) (N:List (List Int)) (Q:List Int):Prop where
 nod:P.Nodup
 zero:P[0]? =some st
 il:i<=P.length
 ol:O.length=i
 nl:N.length=i
 ql:Q.length=i
 inn:∀v∈P,VOk a.Owner.length ps.length v
 row:∀(j:Nat) v,j<i->P[j]? =some v->O[j]? =idx a.Owner v.At/\Q[j]? =some (kF ps v.Record v.At)/\∃r ar,N[j]? =some r/\idx a.Next v.At=some ar/\RowP P ar (iv ps v.Record v.At) r
theorem RecS.init {a:Arena}{ps:List Pair}{st:Place}(h:VOk a.Owner.length ps.length st):RecS a ps st [st] 0 [] [] []:=
 ⟨by simp,rfl,by simp,rfl,rfl,rfl,λv b=>by rw[z6.1 b];exact h,λj v hj=>absurd hj (Nat.not_lt_zero j)⟩
theorem RecS.step {a:Arena}{ps:List Pair}{st:Place}{P:List Place}{i:Nat}{O:List Int}{N:List (List Int)}{Q:List Int}(h:RecS a ps st P i O N Q){v:Place}(f:P[i]? =some v){ar:List Int}(har:idx a.Next v.At=some ar) (B:∀u∈ar,0<=u/\u<(a.Owner.length:Int)){o:Int}(E:idx a.Owner v.At=some o){S:List Int}
 (w:Asc S) (z:S.length=ar.length) (A:∀y,y∈S↔y∈(fw (kyR ar (iv ps v.Record v.At)) P ar.length).2):
 RecS a ps st (fw (kyR ar (iv ps v.Record v.At)) P ar.length).1 (i+1) (O++[o]) (N++[S]) (Q++[kF ps v.Record v.At]):=by
 have t:=yr w z A
 have r:=mM (kyR ar (iv ps v.Record v.At)) P ar.length
 have g:=h.inn v (bQ f)
 have hn:=sX ps v.At g.rl g.rin
 have D:∀x,x<ar.length->VOk a.Owner.length ps.length (kyR ar (iv ps v.Record v.At) x):=λx hx=>by
  have hm:ar.getD x 0∈ar:=by
   rw[List.getD_eq_getElem?_getD,bJ hx]
   exact List.getElem_mem hx
  obtain⟨H,I⟩:=B _ hm
  exact⟨H,I,hn.1,hn.2,sW ps v.At g.nd⟩
 generalize fw (kyR ar (iv ps v.Record v.At)) P ar.length=G at *
 have J:=(bK.1 f).1
 have h1:=h.ol
 have h2:=h.nl
 have k:=h.ql
 have K:=r.len
 refine⟨r.nod h.nod,r.pre 0 _ h.zero,by omega,by simp[h1],by simp[h2],by simp[k],λu b=>?_,λj u hj b=>?_⟩
 · rcases r.mem u b with hm | ⟨x,hx,e⟩
   · exact h.inn u hm
   · rw[e];exact D x hx
 · by_cases e:j=i
   · subst e
     have d:u=v:=by
      have:=r.pre j v f
      rw[b]at this
      exact Option.some.inj this
     subst d
     refine⟨by rw[← h1,E];simp,by rw[← k];simp,S,ar,by rw[← h2];simp,har,t⟩
   · have C:j<i:=by omega
     have c:P[j]? =some (P[j]'(by omega)):=bJ (by omega)
     have d:u=P[j]'(by omega):=by
      have:=r.pre j _ c
      rw[b]at this
      exact Option.some.inj this
     rw[← d]at c
     obtain⟨m,n,F,l,p,q,s⟩:=h.row j u C c
     exact⟨by rw[List.getElem?_append_left (by omega)];exact m,by rw[List.getElem?_append_left (by omega)];exact n,F,l,by rw[List.getElem?_append_left (by omega)];exact p,q,s.mono r.pre⟩
structure RecG (a:Arena) (ps:List Pair) (st:Place) (P:List Place) (g:Parity):Prop where
 game:RecS a ps st P P.length g.Arena.Owner g.Arena.Next g.Prio
 le:P.length<=256
theorem RecG.ok {a:Arena}{ps:List Pair}{st:Place}{P:List Place}{g:Parity}(h:RecG a ps st P g) (ha:eH a=true) (q:∀o∈a.Owner,inR 2 o=true) (p:∀(i:Nat) row,a.Next[i]? =some row->1<=row.length/\row.length<=16) (hk:ps.length<=4):c9 g=true:=by
 have hr:=h.game
 have h0:=(bK.1 hr.zero).1
 have h1:=hr.ol
 have h2:=hr.nl
 have z:=hr.ql
 have hle:=h.le
 have f:∀j:Nat,j<P.length->∃v,P[j]? =some v:=λj hj=>⟨_,bJ hj⟩
 refine vO (by omega) (by omega) (by omega) (by omega) (λrow t=>?_) (λo s=>?_) λx hx=>?_
 · obtain⟨j,hj⟩:=List.getElem?_of_mem t
   have n:=(bK.1 hj).1
   obtain⟨v,b⟩:=f j (by omega)
   obtain⟨_,_,r,ar,m,d,e⟩:=hr.row j v (by omega) b
   rw[hj]at m
   cases m
   have k:=(c8 d).1
   rw[cz k]at d
   obtain⟨A,B⟩:=p _ _ d
   have hl:=e.len
   refine⟨by omega,by omega,ig.2 ⟨λy hy=>?_,e.asc⟩⟩
   obtain⟨C,u,_,w⟩:=e.to y hy
   have:=(bK.1 w).1
   omega
 · obtain⟨j,hj⟩:=List.getElem?_of_mem s
   have n:=(bK.1 hj).1
   obtain⟨v,b⟩:=f j (by omega)
   obtain⟨c,_⟩:=hr.row j v (by omega) b
   rw[hj]at c
   have k:=(c8 c.symm).1
   rw[cz k]at c
   exact q o (bQ c.symm)
 · obtain⟨j,hj⟩:=List.getElem?_of_mem hx
   have n:=(bK.1 hj).1
   obtain⟨v,b⟩:=f j (by omega)
   obtain⟨_,l,_⟩:=hr.row j v (by omega) b
   rw[hj]at l
   cases l
   exact wX ps v.At (by have:=(hr.inn v (bQ b)).rl;omega)
def firstR (k:Nat):List Int:=(List.range k).map Int.ofNat
theorem rA (k:Nat):(firstR k).Nodup:=List.Pairwise.map _ (λ_ _ a e=>a (Int.ofNat.inj e)) List.nodup_range
end Go.Proofs.YtleekpaohfpooaaGreat
set_option linter.unusedVariables false
set_option linter.unusedSimpArgs false
namespace Go.Proofs.YtleekpaohfpooaaGreat
open Go Go.Wk Go.Proofs
theorem yB (row:List Int) (v:Int):kl row v=some (decide (v∈row)):=by
 unfold kl
 rw[eN (f:=jx row v) (r:=true) (xs:=row) (λx=> !(x==v)) rfl (λi x hx=>by
  unfold jx
  rw[bS,hx,bI]
  cases x==v <;> rfl)]
 by_cases h:v∈row
 · rw[if_neg,decide_eq_true h];rfl
   rw[List.all_eq_true]
   intro a
   have:=a v h
   simp at this
 · rw[if_pos,decide_eq_false h];rfl
   rw[List.all_eq_true]
   intro x hx
   simp only[Bool.not_eq_true',beq_eq_false_iff_ne,ne_eq]
   exact λe=>h (e ▸ hx)
theorem zG (p0 p1:List Int):gv p0 p1=some (decide (p0=p1)):=by
 unfold gv
 by_cases h:p0.length=p1.length
 · rw[show((p0.length:Int) !=(p1.length:Int))=false from by rw[h];simp,cond_false]
   rw[rv (f:=ep p0 p1) (r:=false) (λx y=>decide (x=y)) h (λi x y hx hy=>by
    unfold ep
    rw[bS,bS,hx,hy,bI,bI]
    by_cases e:x=y
    · subst e;simp
    · have a:(x==y)=false:=by simp[e]
      simp[bne,a,e])]
   rw[lY h]
   cases decide (p0=p1) <;> rfl
 · rw[show((p0.length:Int) !=(p1.length:Int))=true from by simp only[bne_iff_ne,ne_eq];omega,cond_true,decide_eq_false (λe=>h (by rw[e]))]
def pF (P:List Place) (k:Place):Int:=match locR P k with | some i=>(i:Int) | none=> -1
theorem yP (P:List Place) (u:Int) (rc:List Int):la P u rc=some (pF P ⟨u,rc⟩):=by
 unfold la
 rw[gU (f:=iC P u rc) (λx=>x.At==u&&x.Record==rc) (λi=>(i:Int)) (xs:=P) (λi x hx=>by
  unfold iC
  rw[bS,hx,bI]
  by_cases h1:x.At=u
  · rw[show(x.At==u)=true from by simpa using h1,cond_true,bI,zG]
    by_cases h2:x.Record=rc
    · rw[decide_eq_true h2,show(x.Record==rc)=true from by simpa using h2];rfl
    · rw[decide_eq_false h2,show(x.Record==rc)=false from by simpa using h2];rfl
  · rw[show(x.At==u)=false from by simpa using h1];rfl)]
 unfold pF locR
 cases P.findIdx? (λx=>x.At==u&&x.Record==rc) <;> rfl
section
variable {ps:List Pair}{rc:List Int}(hr:∀x∈rc,0<=x/\x<(ps.length:Int)) (hl:rc.length<=1000)
include hr hl
theorem y7 (v:Int):lb ps rc v=some (iv ps rc v):=by
 unfold lb
 obtain⟨s,h1,h2⟩:=cv (f:=iD ps rc v) (λj (s:List Int×List Int)=>s=((rc.take j).filter (cR ps v),(rc.take j).filter λi=> !cR ps v i)) rc.length (s:=([],[])) rfl (λj s hj hs=>by
  subst hs
  have hx:rc[j]? =some rc[j]:=bJ hj
  generalize rc[j]=x at hx
  obtain⟨d,e⟩:=hr x (bQ hx)
  obtain⟨p,hp,_⟩:=gK (xs:=ps) d e
  have a:cR ps v x=decide (v∈p.Give):=by unfold cR;rw[hp]
  have b:((rc.take j).filter (cR ps v)).length<=1000:=Nat.le_trans (List.length_filter_le ..) (by rw[z9];omega)
  have c:((rc.take j).filter λi=> !cR ps v i).length<=1000:=Nat.le_trans (List.length_filter_le ..) (by rw[z9];omega)
  unfold iD
  rw[bS,hx,bI,hp,bI,yB,← a,bI,Ae,hx]
  simp only[Option.toList_some,List.filter_append]
  cases hc:cR ps v x with
  | true=>
   simp only[cond_true,bI]
   rw[app1 (by omega) rfl]
   exact⟨_,rfl,by simp[hc]⟩
  | false=>
   simp only[cond_false,bI]
   rw[app1 (by omega) rfl]
   exact⟨_,rfl,by simp[hc]⟩)
 rw[h1,h2,bI,bV,List.take_length]
 have b:(rc.filter (cR ps v)).length<=1000:=Nat.le_trans (List.length_filter_le ..) hl
 have c:(rc.filter λi=> !cR ps v i).length<=1000:=Nat.le_trans (List.length_filter_le ..) hl
 dsimp only
 rw[appL (by omega) rfl];rfl
theorem zb (v:Int):lc ps rc v=some (kF ps rc v):=by
 unfold lc
 obtain⟨s,h1,h2⟩:=cv (f:=iE ps rc v) (λj (s:Int×Int)=>s=(cT (askI ps v) rc j,cT (cR ps v) rc j)) rc.length (s:=(-1,-1)) rfl (λj s hj hs=>by
  subst hs
  have hx:rc[j]? =some rc[j]:=bJ hj
  generalize rc[j]=x at hx
  obtain⟨e,i⟩:=hr x (bQ hx)
  obtain⟨p,hp,_⟩:=gK (xs:=ps) e i
  have d:cR ps v x=decide (v∈p.Give):=by unfold cR;rw[hp]
  have ha:askI ps v x=decide (v∈p.Ask):=by unfold askI;rw[hp]
  have b:cT (askI ps v) rc (j+1)=bif askI ps v x then(j:Int) else cT (askI ps v) rc j:=by
   show(bif (match rc[j]? with | some x=>askI ps v x | none=>false) then(j:Int) else _)=_
   rw[hx]
  have c:cT (cR ps v) rc (j+1)=bif cR ps v x then(j:Int) else cT (cR ps v) rc j:=by
   show(bif (match rc[j]? with | some x=>cR ps v x | none=>false) then(j:Int) else _)=_
   rw[hx]
  refine⟨_,?_,rfl⟩
  unfold iE
  simp only[bS,hx,bI,hp,yB,← d,← ha]
  rw[b,c]
  cases askI ps v x <;> cases cR ps v x <;> rfl)
 rw[h1,h2,bI,bV]
 have a:=ir (askI ps v) rc rc.length
 have g:=ir (cR ps v) rc rc.length
 unfold kF
 dsimp only
 generalize cT (askI ps v) rc rc.length=x at *
 generalize cT (cR ps v) rc rc.length=y at *
 rw[wr' (z:=2 * x) (by omega) (by omega),wr' (z:=2 * x+1) (by omega) (by omega),wr' (z:=2 * y) (by omega) (by omega),wr' (z:=2 * y+2) (by omega) (by omega)]
 cases decide (x<0) <;> cases decide (y<0) <;> cases decide (y<x) <;> rfl
end
theorem xo {xs:List Int}(hn:xs.Nodup) (hl:xs.length<=1000):∃S,jy xs=some S/\Asc S/\S.length=xs.length/\∀z,z∈S↔z∈xs:=by
 unfold jy
 obtain⟨s,h1,h2,p,r⟩:=cv (f:=fK xs) (λj (s:List Int)=>Asc s/\s.length=j/\∀z,z∈s↔z∈xs.take j) xs.length (s:=[]) ⟨List.Pairwise.nil,rfl,λz=>by simp⟩ (λj s hj ⟨a1,a2,n⟩=>by
  have hx:xs[j]? =some xs[j]:=bJ hj
  have G:=hx
  generalize hxe:xs[j]=x at hx
  have c:x∉s:=λhm=>by
   obtain⟨i,b⟩:=List.getElem?_of_mem ((n x).1 hm)
   have t:=(bK.1 b).1
   rw[z9]at t
   rw[List.getElem?_take,if_pos (by omega),bJ (by omega)]at b
   have:=(List.pairwise_iff_getElem.1 hn) i j (by omega) hj (by omega)
   exact this ((Option.some.inj b).trans hxe.symm)
  obtain⟨o,w1,F⟩:=cC (f:=fL xs (j:Int) s) (λq (k:Int)=>∃m:Nat,k=(m:Int)/\m+q=s.length/\∀(i:Nat) y,m<=i->s[i]? =some y->x<y) (λ_=>False) (λk=>∃m:Nat,k=(m:Int)/\m<=s.length/\(∀(i:Nat) y,m<=i->s[i]? =some y->x<y)/\∀(i:Nat) y,i<m->s[i]? =some y->y<x) s.length (λq k ⟨m,e,hm,b⟩=>by
   subst e
   unfold fL
   by_cases h0:0<m
   · have hy:s[m-1]? =some (s[m-1]'(by omega)):=bJ (by omega)
     generalize s[m-1]'(by omega)=y at hy
     have v:IntKind.i64.wrap ((m:Int)-1)=((m-1:Nat):Int):=by rw[wr' (by omega) (by omega)];omega
     rw[decide_eq_true (show(0:Int)<(m:Int) by omega),cond_true,v,bS,hy,bI,bS,hx,bI,bI]
     by_cases l:x<y
     · rw[decide_eq_true l,cond_true]
       refine⟨_,rfl,by omega,m-1,rfl,by omega,λi z g a=>?_⟩
       by_cases e:i=m-1
       · subst e
         rw[hy]at a
         cases a
         exact l
       · exact b i z (by omega) a
     · rw[decide_eq_false l,cond_false]
       refine⟨_,rfl,m,rfl,by omega,b,λi z g a=>?_⟩
       have w:y<x:=by
        have:y≠x:=λe=>c (e ▸ bQ hy)
        omega
       by_cases e:i=m-1
       · subst e
         rw[hy]at a
         cases a
         exact w
       · have:=rt a1 a hy (by omega)
         omega
   · have u:m=0:=by omega
     subst u
     rw[decide_eq_false (show ¬(0:Int)<((0:Nat):Int) by omega),cond_false,bI,cond_false]
     exact⟨_,rfl,0,rfl,by omega,b,λi z g _=>absurd g (Nat.not_lt_zero i)⟩) (2 ^ 64) 0 (s.length:Int) (by omega) ⟨s.length,rfl,by omega,λi y b hy=>by
     have:=(bK.1 hy).1
     omega⟩ (by omega)
  match o,F with
  | .inr k,⟨m,e,A,B,C⟩=>
   subst e
   unfold fK
   have D:subS s 0 (m:Int)=some (s.take m):=by
    unfold subS
    rw[if_pos ⟨by omega,by omega,by omega⟩]
    simp
   have E:subS s (m:Int) (s.length:Int)=some (s.drop m):=by
    unfold subS
    rw[if_pos ⟨by omega,by omega,by omega⟩]
    simp
   have H:(s.take m).length<=1000:=by rw[z9];omega
   have I:(s.drop m).length<=1000:=by rw[List.length_drop];omega
   rw[w1,bI,bV,D,bI,appL (by simp;omega) rfl,bI,bS,hx,bI,List.nil_append,app1 (by omega) rfl,bI,E,bI,appL (by rw[z5];simp only[z8,Aa];omega) rfl,bI]
   have d:(s.take m++[x])++s.drop m=ins x s:=by
    rw[List.append_assoc]
    exact uU a1 c A C (λz a=>B m z (Nat.le_refl _) a)
   refine⟨_,rfl,?_,?_,λz=>?_⟩
   · rw[d];exact oT a1
   · rw[d,tZ c a1,a2]
   · rw[d,oU c,n,Ae,hx]
     simp only[Option.toList_some,Ad,z6]
     constructor
     · rintro(h | h)
       · exact .inr h
       · exact .inl h
     · rintro(h | h)
       · exact .inr h
       · exact .inl h)
 rw[h1,bI,bV]
 exact⟨s,rfl,h2,p,λz=>by rw[r,List.take_length]⟩
theorem ue {P:List Place}{k:Place}:(pF P k<0->addR P k=P++[k]/\atR P k=(P.length:Int))/\(¬pF P k<0->addR P k=P/\atR P k=pF P k):=by
 unfold pF addR atR
 cases locR P k with
 | none=>exact⟨λ_=>⟨rfl,rfl⟩,λh=>absurd (by show(-1:Int)<0;omega) h⟩
 | some i=>exact⟨λh=>absurd h (by show ¬((i:Int)<0);omega),λ_=>⟨rfl,rfl⟩⟩
theorem vU (a:Nat->Place) (K:List Place):∀{i j:Nat},i<=j->(fw a K i).1.length<=(fw a K j).1.length:=by
 intro i j h
 induction h with
 | refl=>exact Nat.le_refl _
 | step h b=>
  refine Nat.le_trans b ?_
  show _<=(addR _ _).length
  exact(sB _ _).1
end Go.Proofs.YtleekpaohfpooaaGreat
set_option linter.unusedVariables false
set_option linter.unusedSimpArgs false
namespace Go.Proofs.YtleekpaohfpooaaGreat
open Go Go.Wk Go.Proofs
def noRec:Parity×List Place×Bool:=(⟨⟨[],[]⟩,[]⟩,[],false)
section
variable {a:Arena}{v:Place}{ar rc:List Int}{P:List Place}(har:idx a.Next v.At=some ar) (hal:ar.length<=16) (hrl:rc.length<=4)
include har hal hrl
theorem zD (l:P.length<=256):∃o,bU (eU a v rc) (2 ^ 64) (P,[],0)=some o/\(match o with
 | .inl r=>r=noRec/\256<(fw (kyR ar rc) P ar.length).1.length
 | .inr s=>s.1=(fw (kyR ar rc) P ar.length).1/\s.2.1=(fw (kyR ar rc) P ar.length).2/\(fw (kyR ar rc) P ar.length).1.length<=256):=by
 obtain⟨o,w1,t⟩:=cC (f:=eU a v rc) (λj (s:List Place×List Int×Int)=>s=((fw (kyR ar rc) P j).1,(fw (kyR ar rc) P j).2,(j:Int))/\j<=ar.length/\(fw (kyR ar rc) P j).1.length<=256) (λr=>r=noRec/\256<(fw (kyR ar rc) P ar.length).1.length)
  (λs=>s.1=(fw (kyR ar rc) P ar.length).1/\s.2.1=(fw (kyR ar rc) P ar.length).2/\(fw (kyR ar rc) P ar.length).1.length<=256) ar.length (λj s ⟨e,hj,hle⟩=>by
  subst e
  have q:=mM (kyR ar rc) P j
  have w:=q.rl
  unfold eU
  dsimp only
  rw[har,bI]
  by_cases m:j<ar.length
  · have hx:ar[j]? =some ar[j]:=bJ m
    have g:kyR ar rc j=⟨ar[j],rc⟩:=by unfold kyR;rw[List.getD_eq_getElem?_getD,hx];rfl
    generalize ar[j]=u at hx g
    obtain⟨n,p⟩:=ue (P:=(fw (kyR ar rc) P j).1) (k:=kyR ar rc j)
    have c:fw (kyR ar rc) P (j+1)=(addR (fw (kyR ar rc) P j).1 (kyR ar rc j),(fw (kyR ar rc) P j).2++[atR (fw (kyR ar rc) P j).1 (kyR ar rc j)]):=rfl
    have hm:=vU (kyR ar rc) P (show j+1<=ar.length by omega)
    rw[decide_eq_true (show(j:Int)<(ar.length:Int) by omega),cond_true,bI,bS,hx,bI,yP,← g,bI]
    by_cases hc:pF (fw (kyR ar rc) P j).1 (kyR ar rc j)<0
    · obtain⟨b,d⟩:=n hc
      rw[c,b]at hm
      simp only[z5,z8,Aa]at hm
      by_cases i:(256:Int)<=((fw (kyR ar rc) P j).1.length:Int)
      · rw[decide_eq_true hc,cond_true,decide_eq_true i,cond_true]
        exact⟨_,rfl,rfl,by omega⟩
      · rw[decide_eq_true hc,cond_true,decide_eq_false i,cond_false,appL (by simp;omega) rfl,bI,List.nil_append,app1 (by omega) rfl,bI,bI,bV]
        dsimp only
        rw[app1 (by omega) rfl,bI,wr' (by omega) (by omega)]
        refine⟨_,rfl,by omega,?_,by omega,?_⟩
        · rw[c,b,d,← g];rfl
        · rw[c,b,z5];simp only[z8,Aa];omega
    · obtain⟨b,d⟩:=p hc
      rw[decide_eq_false hc,cond_false,bI,bV]
      dsimp only
      rw[app1 (by omega) rfl,bI,wr' (by omega) (by omega)]
      refine⟨_,rfl,by omega,?_,by omega,?_⟩
      · rw[c,b,d];rfl
      · rw[c,b];exact hle
  · have:j=ar.length:=by omega
    subst this
    rw[decide_eq_false (show ¬((ar.length:Nat):Int)<(ar.length:Int) by omega),cond_false]
    exact⟨_,rfl,rfl,rfl,hle⟩) (2 ^ 64) 0 (P,[],0) (by omega) ⟨rfl,Nat.zero_le _,l⟩ (by omega)
 exact⟨o,w1,by
  match o,t with
  | .inl r,h=>exact h
  | .inr s,h=>exact h⟩
end
end Go.Proofs.YtleekpaohfpooaaGreat
set_option linter.unusedVariables false
set_option linter.unusedSimpArgs false
namespace Go.Proofs.YtleekpaohfpooaaGreat
open Go Go.Wk Go.Proofs
theorem rn {a:Arena}(ha:eH a=true):c9 ⟨a,bO a.Owner.length 0⟩=true:=by
 unfold c9
 dsimp only
 rw[ha,List.length_replicate,beq_self_eq_true,Bool.true_and,Bool.true_and,List.all_eq_true]
 intro x hx
 rw[(List.mem_replicate.1 hx).2];rfl
theorem qE {a:Arena}(ha:eH a=true):1<=a.Owner.length/\a.Owner.length<=256/\(∀(i:Nat) row,a.Next[i]? =some row->1<=row.length/\row.length<=16)/\(∀o∈a.Owner,inR 2 o=true) /\
 ∀v:Int,0<=v->v<(a.Owner.length:Int)->∃ar o,idx a.Next v=some ar/\idx a.Owner v=some o/\1<=ar.length/\ar.length<=16/\Asc ar/\∀u∈ar,0<=u/\u<(a.Owner.length:Int):=by
 have hp:=rn ha
 obtain⟨h1,h2,e,_,b⟩:=eS hp
 dsimp only at h1 h2 e b
 refine⟨h1,h2,λi row hr=>⟨(b i row hr).1,(b i row hr).2.1⟩,(pQ hp).1,λv c n=>?_⟩
 obtain⟨ar,har,_⟩:=gK (xs:=a.Next) c (by omega)
 obtain⟨o,f,_⟩:=gK (xs:=a.Owner) c n
 have d:=har
 rw[cz c]at d
 obtain⟨g,j,k⟩:=b _ ar d
 obtain⟨l,m⟩:=ig.1 k
 exact⟨ar,o,har,f,g,j,m,l⟩
def ManyP (n k:Nat):Prop:=∃P:List Place,256<P.length/\P.Nodup/\∀v∈P,VOk n k v
section
variable {a:Arena}{ps:List Pair}{st:Place}(ha:eH a=true) (hk:ps.length<=4)
include ha hk
end
theorem xH (k:Nat):cntM dX k 0 []=some (.inr (firstR k))\/1000<k:=by
 by_cases hk:1000<k
 · exact .inr hk
 · obtain⟨s,h1,h2⟩:=cv (f:=dX) (λj s=>s=firstR j) k (s:=[]) rfl (λj s hj e=>by
    subst e
    unfold dX
    rw[app1 (by unfold firstR;rw[Ah,List.length_range];omega) rfl]
    exact⟨_,rfl,by unfold firstR;rw[List.range_succ,List.map_append];rfl⟩)
   exact .inl (by rw[h1,h2])
end Go.Proofs.YtleekpaohfpooaaGreat
set_option linter.unusedVariables false
set_option linter.unusedSimpArgs false
namespace Go.Proofs.YtleekpaohfpooaaGreat
open Go Go.Wk Go.Proofs
end Go.Proofs.YtleekpaohfpooaaGreat
set_option linter.unusedVariables false
set_option linter.unusedSimpArgs false
namespace Go.Proofs.YtleekpaohfpooaaGreat
open Go Go.Wk Go.Proofs
theorem mq {p:Sig}(hs:sigOk p=true){x o:Int}(e:0<=x) (f:x<pw p.In) (a:0<=o) (d:o<pw p.Out):i9 p x o=some (o * pw p.In+x):=by
 have j:=gk p.In
 have k:=gk p.Out
 obtain⟨b,c⟩:=ez hs
 have g:0<=o * pw p.In:=Int.mul_nonneg a (by omega)
 have i:o * pw p.In<=4 * 4:=Int.mul_le_mul (by omega) (by omega) (by omega) (by omega)
 unfold i9
 simp only[fJ,hs,bI,zZ,cond_false,dg b,dg c]
 rw[wr' (z:=pw p.In-1) (by omega) (by omega),wr' (z:=pw p.Out-1) (by omega) (by omega),wr' (z:=o * pw p.In) (by omega) (by omega),wr' (by omega) (by omega)]
 simp only[cV,uT,bI,fg.2 ⟨e,f⟩,fg.2 ⟨a,d⟩,zZ,cond_false]
end Go.Proofs.YtleekpaohfpooaaGreat
set_option linter.unusedVariables false
set_option linter.unusedSimpArgs false
namespace Go.Proofs.YtleekpaohfpooaaGreat
open Go Go.Wk Go.Proofs
theorem mY {p:Sig}(hs:sigOk p=true):iX p=some (pw p.In):=by
 obtain⟨a,_⟩:=ez hs
 unfold iX
 rw[(oS a).1,bI,(oS a).2]
end Go.Proofs.YtleekpaohfpooaaGreat
set_option linter.unusedVariables false
set_option linter.unusedSimpArgs false
namespace Go.Proofs.YtleekpaohfpooaaGreat
open Go Go.Wk Go.Proofs
theorem nt:∀{xs ys:List Int},xs.Nodup->(∀x∈xs,x∈ys)->xs.length<=ys.length
 | [],_,_,_=>Nat.zero_le _
 | x::xs,ys,hn,h=>by
  obtain⟨h1,h2⟩:=List.nodup_cons.1 hn
  have hx:=h x (List.mem_cons_self ..)
  have:=nt (ys:=ys.erase x) h2 λz a=>(List.mem_erase_of_ne (λe=>h1 (by rw[← e];exact a))).2 (h z (List.mem_cons_of_mem _ a))
  have b:=List.length_pos_of_mem hx
  rw[List.length_erase_of_mem hx]at this
  simp only[z8]
  omega
theorem yO {m q c i d:Nat}(hi:i<m) (f:d<m) (h:q * m+i=c * m+d):q=c/\i=d:=by
 have e:∀{a b:Nat},a<b->a * m+m<=b * m:=λ{a b} h=>by
  have:=Nat.mul_le_mul_right m (show a+1<=b by omega)
  rwa [Nat.add_mul,Nat.one_mul]at this
 by_cases h1:q<c
 · have:=e h1;omega
 · by_cases h2:c<q
   · have:=e h2;omega
   · have:q=c:=by omega
     subst this
     exact⟨rfl,by omega⟩
theorem qH {n m q i:Nat}(a:q<n) (hi:i<m):q * m+i<n * m:=by
 have:=Nat.mul_le_mul_right m (show q+1<=n by omega)
 rw[Nat.add_mul,Nat.one_mul]at this
 omega
def SuccR (d:Det) (m k q i:Nat) (r:List Int):Prop:=Asc r/\∀z,z∈r↔∃o:Nat,o<k/\z=tab d.Next q ((o * m+i:Nat):Int)
theorem SuccR.uniq {d:Det}{m k q i:Nat}{r r':List Int}(h:SuccR d m k q i r) (a:SuccR d m k q i r'):r=r':=nj h.1 a.1 λz=>by rw[h.2,a.2]
def rowQ (n m q:Nat):List Int:=(List.range m).map λi=>((n+q * m+i:Nat):Int)
structure ConA (d:Det) (n m k:Nat) (A:Arena):Prop where
 ol:A.Owner=bO n 1++bO (n * m) 0
 nl:A.Next.length=n+n * m
 r1:∀q:Nat,q<n->A.Next[q]? =some (rowQ n m q)
 r0:∀q i:Nat,q<n->i<m->∃r,A.Next[n+(q * m+i)]? =some r/\SuccR d m k q i r
section
variable {d:Det}{n m k:Nat}(hn:n<=48) (hn1:1<=n) (hm1:1<=m) (hm:m<=4) (hk1:1<=k) (hk:k<=4) (hd:d.Next.length=n) (hD:∀row∈d.Next,RowIn (n:Int) ((m * k:Nat):Int) row)
include hn hn1 hm1 hm hk1 hk hd hD
omit hn hn1 hk1 hk in
theorem ph {q i o:Nat}(b:q<n) (hi:i<m) (a:o<k):∃row,idx d.Next (q:Int)=some row/\idx row ((o * m+i:Nat):Int)=some (tab d.Next q ((o * m+i:Nat):Int))/\0<=tab d.Next q ((o * m+i:Nat):Int)/\tab d.Next q ((o * m+i:Nat):Int)<(n:Int):=by
 have h1:=qH (n:=k) a hi
 have h2:k * m=m * k:=Nat.mul_comm _ _
 exact jK hD (by omega) (by omega) (by omega) (by omega)
theorem yN {A:Arena}(h:ConA d n m k A):eH A=true:=by
 have D:n * m<=48 * 4:=Nat.mul_le_mul hn hm
 have E:A.Owner.length=n+n * m:=by rw[h.ol];simp
 have C:=h.nl
 unfold eH
 simp only[sh,decide_eq_true_eq,beq_iff_eq]
 refine⟨⟨⟨by omega,by omega⟩,by omega⟩,?_⟩
 rw[List.all_eq_true]
 rintro⟨row,j⟩ hx
 have hx:=List.mem_zipIdx_iff_getElem?.1 hx
 dsimp only at hx ⊢
 have y:=(bK.1 hx).1
 unfold vertOk
 by_cases hj:j<n
 · have c:A.Owner[j]? =some 1:=by
    rw[h.ol,List.getElem?_append_left (by simpa using hj),hV,if_pos hj]
   rw[h.r1 j hj]at hx
   cases hx
   have hl:(rowQ n m j).length=m:=by unfold rowQ;rw[Ah,List.length_range]
   have hs:da (A.Owner.length:Int) (rowQ n m j)=true:=by
    refine ig.2 ⟨λx hx=>?_,?_⟩
    · unfold rowQ at hx
      obtain⟨i,f,e⟩:=List.mem_map.1 hx
      have:=List.mem_range.1 f
      have:=qH (n:=n) (m:=m) hj this
      omega
    · unfold rowQ
      refine List.pairwise_map.2 (List.Pairwise.imp (λ{a b} w=>?_) List.pairwise_lt_range)
      omega
   rw[c,hs,hl]
   simp only[Bool.and_true,sh,decide_eq_true_eq]
   exact⟨⟨by decide,by omega⟩,by omega⟩
 · have l:j-n<n * m:=by omega
   have p:(j-n) / m<n:=(Nat.div_lt_iff_lt_mul (by omega)).2 l
   have f:(j-n) % m<m:=Nat.mod_lt _ (by omega)
   have e:(j-n) / m * m+(j-n) % m=j-n:=by rw[Nat.mul_comm];exact Nat.div_add_mod _ _
   obtain⟨r,q,s,g⟩:=h.r0 _ _ p f
   rw[e,show n+(j-n)=j by omega,hx]at q
   cases q
   have c:A.Owner[j]? =some 0:=by
    rw[h.ol,List.getElem?_append_right (by simp;omega),List.length_replicate,hV,if_pos l]
   have u:∀x∈row,0<=x/\x<(n:Int):=λx hx=>by
    obtain⟨o,c,e⟩:=(g x).1 hx
    obtain⟨_,_,_,a,b⟩:=ph hm1 hm hd hD p f c
    rw[e];exact⟨a,b⟩
   have hs:da (A.Owner.length:Int) row=true:=ig.2 ⟨λx hx=>by have:=u x hx;omega,s⟩
   have B:1<=row.length:=List.length_pos_of_mem ((g _).2 ⟨0,by omega,rfl⟩)
   have hle:row.length<=k:=by
    -- each is one of k
    have t:=nt (ys:=(List.range k).map λo=>tab d.Next ((j-n) / m:Nat) ((o * m+(j-n) % m:Nat):Int)) (gT s) λz v=>by
     obtain⟨o,c,e⟩:=(g z).1 v
     exact List.mem_map.2 ⟨o,List.mem_range.2 c,e.symm⟩
    rwa [Ah,List.length_range]at t
   rw[c,hs]
   simp only[Bool.and_true,sh,decide_eq_true_eq]
   exact⟨⟨by decide,by omega⟩,by omega⟩
end
end Go.Proofs.YtleekpaohfpooaaGreat
set_option linter.unusedVariables false
set_option linter.unusedSimpArgs false
namespace Go.Proofs.YtleekpaohfpooaaGreat
open Go Go.Wk Go.Proofs
theorem mv {p:Sig}(hs:sigOk p=true):dG p=some (pw p.In):=by
 unfold dG
 rw[dg (ez hs).1];rfl
section
variable {p:Sig}{d:Det}(hs:sigOk p=true){n m k:Nat}(hn:n<=48) (hn1:1<=n) (hm:pw p.In=(m:Int)) (hk:pw p.Out=(k:Int)) (hd:d.Next.length=n) (hD:∀row∈d.Next,RowIn (n:Int) ((m * k:Nat):Int) row)
include hs hn hm hk hd hD
omit hn in
theorem yw {q i:Nat}(v:q<n) (hi:i<m):∃r,ko p d q i=some r/\SuccR d m k q i r:=by
 have F:=gk p.In
 have k1:=gk p.Out
 unfold ko
 obtain⟨o,w1,D⟩:=cC (f:=gB p d q i) (λj (s:List Int×Int)=>s.2=(j:Int)/\j<=k/\Asc s.1/\s.1.length<=j/\∀z,z∈s.1↔∃o:Nat,o<j/\z=tab d.Next q ((o * m+i:Nat):Int)) (λ_=>False) (λs=>SuccR d m k q i s.1) k (λj s ⟨c,hj,a1,a2,b⟩=>by
  obtain⟨xs,o⟩:=s
  dsimp only at c a1 a2 b
  subst c
  unfold gB
  rw[dg (ez hs).2,bI,hk]
  dsimp only
  by_cases u:j<k
  · obtain⟨row,A,B,_⟩:=ph (d:=d) (k:=k) (by omega) (by omega) hd hD v hi u
    obtain⟨R,C,l,t⟩:=wC a1 (tab d.Next q ((j * m+i:Nat):Int)) (by omega)
    have g:=mq hs (x:=(i:Int)) (o:=(j:Int)) (by omega) (by omega) (by omega) (by omega)
    have e:(j:Int) * (m:Int)+(i:Int)=((j * m+i:Nat):Int):=by simp
    rw[hm,e]at g
    rw[decide_eq_true (show(j:Int)<(k:Int) by omega),cond_true,A,bI,g,bI,B,bI,C,bI,wr' (by omega) (by omega)]
    have E:R.length<=xs.length+1:=nt (ys:=tab d.Next q ((j * m+i:Nat):Int)::xs) (gT l) λz w=>by
     rcases(t z).1 w with h | h
     · rw[h];exact List.mem_cons_self ..
     · exact List.mem_cons_of_mem _ h
    refine⟨_,rfl,by omega,by dsimp only;omega,by omega,l,by dsimp only;omega,λz=>?_⟩
    dsimp only
    rw[t,b]
    constructor
    · rintro(h | ⟨o,y,a⟩)
      · exact⟨j,by omega,h⟩
      · exact⟨o,by omega,a⟩
    · rintro⟨o,y,a⟩
      by_cases e:o=j
      · subst e;exact .inl a
      · exact .inr ⟨o,by omega,a⟩
  · have:j=k:=by omega
    subst this
    rw[decide_eq_false (show ¬((j:Nat):Int)<(j:Int) by omega),cond_false]
    exact⟨_,rfl,a1,b⟩) (2 ^ 64) 0 ([],0) (by omega) ⟨rfl,Nat.zero_le _,List.Pairwise.nil,Nat.le_refl _,λz=>by simp⟩ (by omega)
 match o,D with
 | .inr s,h=>rw[w1];exact⟨s.1,rfl,h⟩
def ConR (d:Det) (n m k c:Nat) (s:List Int×List (List Int)):Prop:=s.1=bO n 1++bO c 0/\∃R,s.2=(List.range n).map (rowQ n m)++R/\R.length=c/\∀q i:Nat,q<n->i<m->q * m+i<c->∃r,R[q * m+i]? =some r/\SuccR d m k q i r
end
end Go.Proofs.YtleekpaohfpooaaGreat
