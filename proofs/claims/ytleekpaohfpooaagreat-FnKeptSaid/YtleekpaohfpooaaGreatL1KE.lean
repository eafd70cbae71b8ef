/- The reference's attractor, whole. -/
import Derived.Test.YtleekpaohfpooaaGreatL0KE
set_option linter.unusedVariables false
set_option linter.unusedSimpArgs false
open Option renaming bind → bC, bind_some → bE
open List renaming getElem?_eq_getElem → gs, replicate → sh, mem_of_getElem? → yB, getElem?_replicate → yF, length_append → yK, mem_singleton → yM, length_cons → yO, length_take → yP, length_nil → yQ, getElem?_eq_none → yS, mem_append → yT, take_add_one → yU, length_map → yW
open Bool renaming not_true → yJ, eq_iff_iff → yR
namespace Go.Proofs.YtleekpaohfpooaaGreat
open Go Go.Wk Go.Proofs
def gS (x:l7Game):Par.Gm:=mkG (rowS x) (ownL x.owner) (priL x.prio)
theorem gN {α:Type}{xs:List α}{j:Nat}{y:α}(h:xs[j]? =some y):xs.take (j+1)=xs.take j++[y]:=by rw[yU,h];rfl
theorem qh {xs:List Int}{j:Nat}{y:Int}(hn:xs.Nodup) (h:xs[j]? =some y):y∉xs.take j:=by
 have h2:=hn.sublist (List.take_sublist (j+1) xs)
 rw[gN h,List.nodup_append]at h2
 exact λhm=>h2.2.2 y hm y (by simp) rfl
section
variable {x:l7Game}{n:Nat}(wf:WfS x n){B:List Bool}(hB:B.length=n)
include wf hB
omit wf in
theorem tj {p:Bool}{goal:Int->Prop}{Q:List Int}(h:Cert (rowS x) (ownL x.owner) (In B) p goal Q):Q.length<=n:=cW n Q h.nd λv hv=>mq hB (h.mem v hv)
theorem ue {goal:List Bool}(hG:goal.length=n){p:Bool}(hN:Par.NoDead (gS x) (In B)):∃Q out left,cntM (eb x B goal) B.length 0 ([],sh n false,sh n 0)=some (.inr (Q,out,left)) /\
 Cert (rowS x) (ownL x.owner) (In B) p (In goal) Q/\(∀v,In B v->In goal v->v∈Q)/\Trap (rowS x) (ownL x.owner) (In B) p Q (λ_ y=>y∈([]:List Int)) /\
 (out.length=n/\∀v:Int,0<=v->v<n->idx out v=some (decide (v∈Q)))/\(left.length=n/\∀w,In B w->w∉Q->idx left w=some (lf (rowS x w) (In B) (λy=>y∈([]:List Int)):Int)):=by
 have hn:=wf.n256
 obtain⟨s,h1,h2⟩:=bX (f:=eb x B goal) (λj (s:List Int×List Bool×List Int)=>s.1.Nodup/\(∀v,v∈s.1↔v<(j:Int)/\In B v/\In goal v) /\
  (s.2.1.length=n/\∀v:Int,0<=v->v<n->idx s.2.1 v=some (decide (v∈s.1)))/\(s.2.2.length=n/\∀w:Int,w<(j:Int)->In B w->idx s.2.2 w=some (lf (rowS x w) (In B) (λ_=>False):Int))) B.length (s:=([],sh n false,sh n 0))
  ⟨by simp,λv=>⟨λh=>by simp at h,λ⟨h,hb,_⟩=>by have:=(mq hB hb).1;omega⟩,⟨by simp,λv v0 v1=>by
   rw[cE v0,yF,if_pos (by omega)];simp⟩,⟨by simp,λw hw hb=>by have:=(mq hB hb).1;omega⟩⟩ (λj s hj ⟨q1,q2,o,l⟩=>by
  obtain⟨Q,out,left⟩:=s
  dsimp only at q1 q2 o l
  rw[hB]at hj
  obtain⟨b,hb⟩:=cj (xs:=B) (i:=(j:Int)) (by omega) (by omega)
  obtain⟨g,hg⟩:=cj (xs:=goal) (i:=(j:Int)) (by omega) (by omega)
  have hlen:Q.length<=n:=cW n Q q1 λv hv=>mq hB ((q2 v).1 hv).2.1
  have hjQ:(j:Int)∉Q:=λh=>by have:=((q2 _).1 h).1;omega
  have hlf:=wl (row:=rowS x (j:Int)) (inn:=In B) (d:=λ_=>False)
  have hl16:=(rC wf (j:Int)).2.1
  obtain⟨left',hs,hsl⟩:=cF (xs:=left) (i:=(j:Int)) (lf (rowS x (j:Int)) (In B) (λ_=>False):Int) (by omega) (by omega)
  obtain⟨out',hso,hsol⟩:=cF (xs:=out) (i:=(j:Int)) true (by omega) (by omega)
  obtain⟨ol,hol⟩:=cj (xs:=left) (i:=(j:Int)) (by omega) (by omega)
  unfold eb
  dsimp only
  simp only[hb,bE,hg,andE,sH wf hB (show 0<=(j:Int) by omega) (show(j:Int)<n by omega),hs,hso,hol,o.2 (j:Int) (by omega) (by omega),app1 (show Q.length<=10000000000 by omega) (show Nat.ble 8 1024=true from rfl)]
  have hleft:∀(l2:List Int),l2=(bif b then left' else left)->(l2.length=n/\∀w:Int,w<((j+1:Nat):Int)->In B w->idx l2 w=some (lf (rowS x w) (In B) (λ_=>False):Int)):=λl2 e=>by
   subst e
   cases b with
   | true=>
    refine⟨by dsimp only[cond_true];omega,λw hw hi=>?_⟩
    dsimp only[cond_true]
    rw[cS hs]
    by_cases e:w=(j:Int)
    · rw[if_pos e,e]
    · rw[if_neg e];exact l.2 w (by omega) hi
   | false=>
    refine⟨l.1,λw hw hi=>?_⟩
    by_cases e:w=(j:Int)
    · subst e;unfold In at hi;rw[hb]at hi;cases hi
    · exact l.2 w (by omega) hi
  have hin:In B (j:Int)↔b=true:=by unfold In;rw[hb];simp
  have hig:In goal (j:Int)↔g=true:=by unfold In;rw[hg];simp
  cases hbg:(b&&g) with
  | true=>
   have hb1:b=true:=by revert hbg;cases b <;> simp
   have hg1:g=true:=by revert hbg;cases b <;> simp
   subst hb1 hg1
   simp only[cond_true,bE]
   refine⟨_,rfl,?_,?_,⟨by dsimp only;omega,?_⟩,hleft _ rfl⟩
   · dsimp only
     rw[List.nodup_append]
     exact⟨q1,by simp,λa ha c hc=>by simp at hc;subst hc;exact λe=>hjQ (e ▸ ha)⟩
   · intro v
     dsimp only
     rw[yT,yM,q2 v]
     constructor
     · rintro(⟨h1,h2,h3⟩ | rfl)
       · exact⟨by omega,h2,h3⟩
       · exact⟨by omega,hin.2 rfl,hig.2 rfl⟩
     · rintro⟨h1,h2,h3⟩
       by_cases e:v=(j:Int)
       · exact .inr e
       · exact .inl ⟨by omega,h2,h3⟩
   · intro v v0 v1
     dsimp only
     rw[cS hso]
     by_cases e:v=(j:Int)
     · subst e;simp
     · rw[if_neg e,o.2 v v0 v1];simp[e]
  | false=>
   have hq:∀v,v∈Q↔v<((j+1:Nat):Int)/\In B v/\In goal v:=λv=>by
    rw[q2 v]
    constructor
    · rintro⟨h1,h2,h3⟩;exact⟨by omega,h2,h3⟩
    · rintro⟨h1,h2,h3⟩
      refine⟨?_,h2,h3⟩
      have:v≠(j:Int):=λe=>by
       subst e
       rw[hin.1 h2,hig.1 h3]at hbg
       cases hbg
      omega
   cases b with
   | true=>
    simp only[cond_true,cond_false,bE]
    exact⟨_,rfl,q1,hq,o,hleft _ rfl⟩
   | false=>
    simp only[cond_false,bE]
    exact⟨_,rfl,q1,hq,o,hleft _ rfl⟩)
 obtain⟨Q,out,left⟩:=s
 obtain⟨q1,q2,o,l⟩:=h2
 dsimp only at q1 q2 o l
 have hz:∀w,lf (rowS x w) (In B) (λy=>y∈([]:List Int))=lf (rowS x w) (In B) (λ_=>False):=λw=>eP λy _ _=>by simp
 refine⟨Q,out,left,h1,⟨q1,λv hv=>((q2 v).1 hv).2.1,λk v hk=> .inl ((q2 v).1 (yB hk)).2.2⟩,λv hb hg=>(q2 v).2 ⟨by have:=mq hB hb;omega,hb,hg⟩,λv hv hq=>⟨λ_ y _ _ h=>by simp at h,λho=>?_⟩,o,l.1,λw hw hq=>?_⟩
 · obtain⟨u,e1,e2⟩:=hN v hv
   exact⟨u,e1,e2,by simp⟩
 · rw[hz];exact l.2 w (by have:=mq hB hw;omega) hw
theorem wg {goal:List Bool}(hG:goal.length=n) (p:Bool) (hN:Par.NoDead (gS x) (In B)):∃A,gJ x B (b2i p) goal=some A/\A.length=n/\Par.IsAttr (gS x) (In B) p (In goal) (In A):=by
 have hn:=wf.n256
 obtain⟨Q0,out0,left0,i1,i2,i3,i4,i5,i6⟩:=ue wf hB hG (p:=p) hN
 unfold gJ
 rw[hB,di (by omega) rfl,bE,di (by omega) rfl,bE]
 rw[hB]at i1
 rw[i1,bE,bJ]
 dsimp only
 obtain⟨o,w1,w2⟩:=cB (f:=fI x B (b2i p)) (λj (s:List Int×Int×List Bool×List Int)=>s.2.1=(j:Int)/\j<=s.1.length/\Cert (rowS x) (ownL x.owner) (In B) p (In goal) s.1/\(∀v,In B v->In goal v->v∈s.1)/\Trap (rowS x) (ownL x.owner) (In B) p s.1 (λ_ y=>y∈s.1.take j) /\
  (s.2.2.1.length=n/\∀v:Int,0<=v->v<n->idx s.2.2.1 v=some (decide (v∈s.1)))/\(s.2.2.2.length=n/\∀w,In B w->w∉s.1->idx s.2.2.2 w=some (lf (rowS x w) (In B) (λy=>y∈s.1.take j):Int))) (λ_=>False)
  (λs=>∃Q,Cert (rowS x) (ownL x.owner) (In B) p (In goal) Q/\(∀v,In B v->In goal v->v∈Q)/\Trap (rowS x) (ownL x.owner) (In B) p Q (λ_ y=>y∈Q)/\(s.2.2.1.length=n/\∀v:Int,0<=v->v<n->idx s.2.2.1 v=some (decide (v∈Q)))) n (λj s ⟨a1,a2,a3,a4,a5,a6,a7⟩=>by
  obtain⟨Q,i,out,left⟩:=s
  dsimp only at a1 a2 a3 a4 a5 a6 a7
  subst a1
  have hQn:=tj hB a3
  unfold fI
  dsimp only
  by_cases hlt:(j:Int)<(Q.length:Int)
  · have hjl:j<Q.length:=by omega
    have hu:Q[j]? =some Q[j]:=gs hjl
    have hQe:Q=Q.take j++Q[j]::Q.drop (j+1):=by rw[← List.drop_eq_getElem_cons hjl,List.take_append_drop]
    generalize Q[j]=u at hu hQe
    obtain⟨u0,u1⟩:=mq hB (a3.mem u (yB hu))
    obtain⟨P,hP⟩:=cj (xs:=x.prev) u0 (by rw[wf.lv];exact u1)
    obtain⟨p1,p2,p3⟩:=wf.prev u P hP
    simp only[hlt,decide_true,cond_true,bH,hu,bE]
    have hm0:Mid (rowS x) (ownL x.owner) (In B) p (In goal) (Q.take j) u [] Q:=by
     have:=Mid.first (T:=Q.take j) (u:=u) (R:=Q.drop (j+1)) (hQe ▸ a3) (hQe ▸ a5)
     rwa [← hQe]at this
    obtain⟨oi,v1,v2⟩:=cB (f:=dv x B (b2i p) u) (λk (s:List Int×Int×List Bool×List Int)=>s.2.1=(k:Int)/\k<=P.length/\Mid (rowS x) (ownL x.owner) (In B) p (In goal) (Q.take j) u (P.take k) s.1 /\
     (s.2.2.1.length=n/\∀v:Int,0<=v->v<n->idx s.2.2.1 v=some (decide (v∈s.1)))/\(s.2.2.2.length=n/\∀w,In B w->w∉s.1->idx s.2.2.2 w=some (lf (rowS x w) (In B) (dn (Q.take j) u (P.take k) w):Int))/\(∀v∈Q,v∈s.1)) (λ_=>False)
     (λs=>Mid (rowS x) (ownL x.owner) (In B) p (In goal) (Q.take j) u P s.1/\(s.2.2.1.length=n/\∀v:Int,0<=v->v<n->idx s.2.2.1 v=some (decide (v∈s.1)))/\(s.2.2.2.length=n/\∀w,In B w->w∉s.1->idx s.2.2.2 w=some (lf (rowS x w) (In B) (dn (Q.take j) u P w):Int))/\(∀v∈Q,v∈s.1)) P.length (λk s ⟨b1,b2,b3,b4,b5,b6⟩=>by
     obtain⟨Q',i',out',left'⟩:=s
     dsimp only at b1 b2 b3 b4 b5 b6
     subst b1
     by_cases hk:k<P.length
     · have hv:P[k]? =some P[k]:=gs hk
       generalize P[k]=v at hv
       have hQ'n:=tj hB b3.cert
       obtain⟨Q2,o2,l2,c1,c2,c3,c4,c5⟩:=tn wf hB b3 (qh p1 hv) hP hv (by omega) b4 b5
       refine⟨_,c1,by omega,rfl,by omega,?_,c3,?_,λv hv=>c5 v (b6 v hv)⟩
       · rw[gN hv];exact c2
       · rw[gN hv];exact c4
     · unfold dv
       rw[hP,bE]
       have:¬(k:Int)<(P.length:Int):=by omega
       dsimp only
       simp only[this,decide_false,cond_false]
       have e:P.take k=P:=List.take_of_length_le (by omega)
       rw[e]at b3 b5
       exact⟨_,rfl,b3,b4,b5,b6⟩) (2 ^ 64) 0 (Q,0,out,left) (by omega) ⟨rfl,by omega,by simpa using hm0,a6,⟨a7.1,λw hw hq=>by
        rw[a7.2 w hw hq]
        congr 2
        exact eP λy _ _=>(lc (by simp)).symm⟩,λ_ h=>h⟩ (by omega)
    match oi,v2 with
    | .inr s,⟨c1,c2,c3,c4⟩=>
     obtain⟨Q',i',out',left'⟩:=s
     dsimp only at c1 c2 c3 c4
     have hwr:IntKind.i64.wrap ((j:Int)+1)=((j+1:Nat):Int):=by rw[wr' (by omega) (by omega)];omega
     rw[v1,bE,bJ,hwr]
     have htk:Q'.take (j+1)=Q.take j++[u]:=by
      obtain⟨R,e⟩:=c1.hu
      have hjl:(Q.take j).length=j:=by rw[yP];omega
      rw[e,show Q.take j++u::R=(Q.take j++[u])++R from by simp,List.take_append_of_le_length (by rw[yK,hjl];simp),List.take_of_length_le (by rw[yK,hjl];simp)]
     have hlen:j+1<=Q'.length:=by
      obtain⟨R,e⟩:=c1.hu
      have hjl:(Q.take j).length=j:=by rw[yP];omega
      rw[e,yK,hjl,yO];omega
     have hall:∀v,In B v->u∈rowS x v->v∈P:=λv hv hu=>by
      rw[p3]
      unfold rowS at hu
      cases hr:idx x.next v with
      | none=>rw[hr]at hu;simp at hu
      | some r=>
       cases hk:idx x.pick v with
       | none=>rw[hr,hk]at hu;simp at hu
       | some k=>rw[hr,hk]at hu;exact⟨r,rfl,(List.mem_filter.1 hu).1⟩
     have hjn:j<n:=by omega
     refine⟨_,rfl,hjn,rfl,hlen,c1.cert,λv hb hg=>c4 v (a4 v hb hg),?_,c2,c3.1,λw hw hq=>?_⟩
     · dsimp only
       rw[htk];exact c1.last hall
     · dsimp only
       dsimp only at hq
       rw[c3.2 w hw hq,htk]
       congr 2
       exact eP λy hy _=>by
        unfold dn
        rw[yT,yM]
        constructor
        · rintro(h | ⟨h,_⟩)
          · exact .inl h
          · exact .inr h
        · rintro(h | h)
          · exact .inl h
          · exact .inr ⟨h,hall w hw (h ▸ hy)⟩
  · simp only[hlt,decide_false,cond_false]
    rw[List.take_of_length_le (by omega)]at a5
    exact⟨_,rfl,Q,a3,a4,a5,a6⟩) (2 ^ 64) 0 (Q0,0,out0,left0) (by omega) ⟨rfl,by omega,i2,i3,by simpa using i4,i5,by simpa using i6⟩ (by omega)
 match o,w2 with
 | .inr s,⟨Q,k1,k2,k3,k4⟩=>
  rw[w1,bE,bJ]
  refine⟨_,rfl,k4.1,?_⟩
  have ha:=k1.attr (pri:=priL x.prio) k2 k3
  have e:(λv=>v∈Q)=In s.2.2.1:=by
   funext v
   apply propext
   constructor
   · intro hv
     obtain⟨v0,v1⟩:=mq hB (k1.mem v hv)
     unfold In;rw[k4.2 v v0 v1];simp[hv]
   · intro hv
     have hr:=cq hv
     unfold In at hv
     rw[k4.2 v hr.1 (by omega)]at hv
     simpa using hv
  rw[← e];exact ha
end
end Go.Proofs.YtleekpaohfpooaaGreat
set_option linter.unusedVariables false
set_option linter.unusedSimpArgs false
namespace Go.Proofs.YtleekpaohfpooaaGreat
open Go Go.Wk Go.Proofs
structure WfI (x:solver) (n:Nat):Prop where
 n256:n<=256
 lo:x.game.Arena.Owner.length=n
 lp:x.game.Prio.length=n
 ln:x.game.Arena.Next.length=n
 lv:x.preds.length=n
 ow:∀v o,idx x.game.Arena.Owner v=some o->o=0\/o=1
 row:∀v r,idx x.game.Arena.Next v=some r->r.length<=16/\r.Nodup/\∀u∈r,0<=u/\u<n
 prev:∀u P,idx x.preds u=some P->P.Nodup/\P.length<=100000/\∀v,v∈P↔∃r,idx x.game.Arena.Next v=some r/\u∈r
def cv (a:Arena) (v:Int):List Int:=(idx a.Next v).getD []
def gI (g:Parity):Par.Gm:=mkG (cv g.Arena) (ownL g.Arena.Owner) (priL g.Prio)
theorem dA {a:Arena}{v:Int}{r:List Int}(hr:idx a.Next v=some r):cv a v=r:=by unfold cv;rw[hr];rfl
theorem xD {O:List Int}{v o:Int}{p:Bool}(h:idx O v=some o) (ho:o=0\/o=1):(o !=b2i p)=decide (¬ownL O v=p):=by
 have:=uI (p:=p) h ho
 rw[bne,this]
 by_cases h:ownL O v=p <;> simp[h]
section
variable {x:solver}{n:Nat}(wf:WfI x n){B:List Bool}(hB:B.length=n)
include wf
theorem uF (v:Int):(cv x.game.Arena v).Nodup/\(cv x.game.Arena v).length<=16/\∀u∈cv x.game.Arena v,0<=u/\u<n:=by
 unfold cv
 cases hr:idx x.game.Arena.Next v with
 | none=>simp
 | some r=>
  obtain⟨h1,h2,h3⟩:=wf.row v r hr
  exact⟨h2,h1,h3⟩
include hB
omit wf in
theorem pp {v:Int}(h:In B v):0<=v/\v<n:=by
 have:=cq h
 rw[hB]at this
 exact this
theorem wU {v:Int}{r left:List Int}(hr:idx x.game.Arena.Next v=some r) (hl:left.length=n) (h0:idx left v=some 0):∃left',cntM (cO B v r) r.length 0 left=some (.inr left')/\left'.length=n /\
 idx left' v=some (lf r (In B) (λ_=>False):Int)/\∀w,w≠v->idx left' w=idx left w:=by
 classical
 obtain⟨r1,r2,r3⟩:=wf.row v r hr
 have hv:=cq h0
 obtain⟨s,h1,h2⟩:=bX (f:=cO B v r) (λj (s:List Int)=>s.length=n/\idx s v=some (((r.take j).filter (λy=>decide (In B y))).length:Int)/\∀w,w≠v->idx s w=idx left w) r.length (s:=left) ⟨hl,by simpa using h0,λ_ _=>rfl⟩ (λj s hj ⟨q1,q2,q3⟩=>by
  have hu:r[j]? =some r[j]:=gs hj
  generalize r[j]=u at hu
  obtain⟨u0,u1⟩:=r3 u (yB hu)
  obtain⟨b,hb⟩:=cj (xs:=B) u0 (by omega)
  have hle:((r.take j).filter (λy=>decide (In B y))).length<=j:=Nat.le_trans (List.length_filter_le _ _) (by rw[yP];omega)
  obtain⟨s',hs,hsl⟩:=cF (xs:=s) (i:=v) (((r.take j).filter (λy=>decide (In B y))).length+1:Int) (by omega) (by omega)
  unfold cO
  simp only[bH,hu,bE,hb,q2]
  rw[wr' (by omega) (by omega)]
  have htk:(r.take (j+1)).filter (λy=>decide (In B y))=(r.take j).filter (λy=>decide (In B y))++(if b then[u] else[]):=by
   rw[gN hu,List.filter_append];congr 1
   have:In B u↔b=true:=by unfold In;rw[hb];simp
   cases b with
   | true=>simp[this]
   | false=>simp[this]
  cases b with
  | true=>
   simp only[cond_true,hs,bE]
   refine⟨_,rfl,by omega,?_,λw hw=>?_⟩
   · rw[cS hs,if_pos rfl,htk];simp
   · rw[cS hs,if_neg hw];exact q3 w hw
  | false=>
   simp only[cond_false,bE]
   exact⟨_,rfl,q1,by rw[htk];simpa using q2,q3⟩)
 rw[List.take_length]at h2
 refine⟨s,h1,h2.1,?_,h2.2.2⟩
 rw[h2.2.1]
 unfold lf
 congr 3
 apply List.filter_congr
 intro u _
 simp
def LI (x:solver) (B:List Bool) (left:List Int) (w:Int) (d:Int->Prop):Prop:=idx left w=some (lf (cv x.game.Arena w) (In B) d:Int)\/(idx left w=some 0/\∀y∈cv x.game.Arena w,In B y->¬d y)
omit wf hB in
theorem LI.congr {left:List Int}{w:Int}{d d':Int->Prop}(h:LI x B left w d) (e:∀y∈cv x.game.Arena w,In B y->(d y↔d' y)):LI x B left w d':=by
 rcases h with h | ⟨h1,h2⟩
 · left;rw[h];congr 2;exact eP e
 · right;exact⟨h1,λy hy hi hd=>h2 y hy hi ((e y hy hi).2 hd)⟩
theorem tm {goal:Int->Prop}{p:Bool}{T L Q R:List Int}{u v:Int}{out:List Bool}{left:List Int}(hm:Mid (cv x.game.Arena) (ownL x.game.Arena.Owner) (In B) p goal T u L Q) (hR:Q=T++u::R) (hvL:v∉L)
 {P:List Int} {j:Nat} (hP:idx x.preds u=some P) (hj:P[j]? =some v) (hQ:Q.length<=100000)
 (ho:out.length=n/\∀v:Int,0<=v->v<n->idx out v=some (decide (v∈Q))) (hl:left.length=n/\∀v,In B v->v∉Q->¬ownL x.game.Arena.Owner v=p->LI x B left v (dn T u L v)):
 ∃R' out' left',dt x (b2i p) B P (j:Int) (R,out,left)=some (.inr (.inr (R',out',left')))/\Mid (cv x.game.Arena) (ownL x.game.Arena.Owner) (In B) p goal T u (L++[v]) (T++u::R') /\
  (out'.length=n/\∀v:Int,0<=v->v<n->idx out' v=some (decide (v∈T++u::R')))/\(left'.length=n/\∀w,In B w->w∉T++u::R'->¬ownL x.game.Arena.Owner w=p->LI x B left' w (dn T u (L++[v]) w))/\(∀v∈Q,v∈T++u::R'):=by
 have hn:=wf.n256
 obtain⟨p1,p2,p3⟩:=wf.prev u P hP
 obtain⟨r,hr,hur⟩:=(p3 v).1 (yB hj)
 have hre:=dA hr
 obtain⟨v0,v1⟩:=cq hr
 rw[wf.ln]at v1
 obtain⟨b,hb⟩:=cj (xs:=B) v0 (by omega)
 obtain⟨w,hw⟩:=cj (xs:=x.game.Arena.Owner) v0 (by rw[wf.lo];exact v1)
 have hRl:R.length<=100000:=by
  have:=congrArg List.length hR
  rw[yK,yO]at this;omega
 unfold dt
 rw[bH,hj,bE,ho.2 v v0 v1,bE,hb]
 dsimp only
 simp only[bE,orE]
 have hadd:∀left2:List Int,(left2.length=n/\∀w,w≠v->idx left2 w=idx left w)->In B v->v∉Q->(ownL x.game.Arena.Owner v=p\/lf (cv x.game.Arena v) (In B) (λy=>y∈T\/y=u)=0) ->
  ∃R' out' left',(bC (setI out v true) λy59=>bC (appS 8 R [v]) λx114=>(some (.inr (.inr (x114,y59,left2))):Option (List Bool⊕((List Int×List Bool×List Int)⊕(List Int×List Bool×List Int)))))=some (.inr (.inr (R',out',left')))/\Mid (cv x.game.Arena) (ownL x.game.Arena.Owner) (In B) p goal T u (L++[v]) (T++u::R') /\
  (out'.length=n/\∀v:Int,0<=v->v<n->idx out' v=some (decide (v∈T++u::R')))/\(left'.length=n/\∀w,In B w->w∉T++u::R'->¬ownL x.game.Arena.Owner w=p->LI x B left' w (dn T u (L++[v]) w))/\(∀v∈Q,v∈T++u::R'):=λleft2 ⟨l1,l2⟩ hi hq hc=>by
  obtain⟨out',hso,hsol⟩:=cF (xs:=out) (i:=v) true v0 (by omega)
  have hQ':T++u::(R++[v])=Q++[v]:=by rw[hR];simp
  refine⟨R++[v],out',left2,by rw[hso,bE,app1 (by omega) rfl,bE],?_,⟨by omega,λy y0 y1=>?_⟩,⟨l1,λw hw hq' hop=>?_⟩,λy hy=>by rw[hQ'];exact List.mem_append_left _ hy⟩
  · rw[hQ'];exact hm.add hi hq (hre ▸ hur) hc
  · rw[cS hso,hQ']
    by_cases e:y=v
    · subst e;simp
    · rw[if_neg e,ho.2 y y0 y1];simp[e]
  · rw[hQ',yT,yM,not_or]at hq'
    have:=hl.2 w hw hq'.1 hop
    unfold LI at this ⊢
    rw[l2 w hq'.2]
    exact LI.congr (left:=left) this λy _ _=>(gh hq'.2).symm
 by_cases hsk:(decide (v∈Q) || !b)=true
 · rw[hsk,cond_true]
   have hcond:¬In B v\/v∈Q\/u∉cv x.game.Arena v:=by
    simp only[Bool.or_eq_true,Bool.not_eq_true',decide_eq_true_eq]at hsk
    rcases hsk with h | h
    · exact .inr (.inl h)
    · left;unfold In;rw[hb,h];simp
   subst hR
   refine⟨R,out,left,rfl,hm.skip hcond,ho,⟨hl.1,λy hy hq hop=>?_⟩,λ_ h=>h⟩
   refine LI.congr (hl.2 y hy hq hop) λz hz _=>?_
   by_cases e:y=v
   · subst e
     rcases hcond with h | h | h
     · exact absurd hy h
     · exact absurd h hq
     · have:z≠u:=λe=>h (e ▸ hz)
       unfold dn;simp[this]
   · exact(gh e).symm
 · simp only[Bool.not_eq_true,Bool.or_eq_false_iff,Bool.not_eq_false',decide_eq_false_iff_not]at hsk
   obtain⟨h2,h1⟩:=hsk
   subst h1
   have hi:In B v:=hb
   have hu:u∈cv x.game.Arena v:=hre ▸ hur
   simp only[h2,decide_false,yJ,Bool.or_false,cond_false,hw,bE,xD hw (wf.ow v w hw)]
   by_cases hop:ownL x.game.Arena.Owner v=p
   · have:decide (¬ownL x.game.Arena.Owner v=p)=false:=by simp[hop]
     simp only[this,cond_false]
     exact hadd left ⟨hl.1,λ_ _=>rfl⟩ hi h2 (.inl hop)
   · have:decide (¬ownL x.game.Arena.Owner v=p)=true:=by simp[hop]
     simp only[this,cond_true]
     have hlf:lf (cv x.game.Arena v) (In B) (λy=>y∈T\/y=u)+1=lf (cv x.game.Arena v) (In B) (dn T u L v):=by
      rw[rh (uF wf v).1 hu hm.u_in.2.2 hm.u_in.2.1]
      exact eP λy _ _=>(lc hvL).symm
     have hlle:lf (cv x.game.Arena v) (In B) (dn T u L v)<=16:=Nat.le_trans wl (uF wf v).2.1
     -- the count, made or known
     have hcount:∃l7,(bC (idx left v) λx69=>(bif (x69==0) then
      bC (idx x.game.Arena.Next v) λx79=>
      bC (cntM (cO B v x79) x79.length 0 left) λq9=>
      aft (λr=>none) (λs10=>
       some (s10:(List Int))) q9
      else
       some left))=some l7/\l7.length=n/\idx l7 v=some (lf (cv x.game.Arena v) (In B) (dn T u L v):Int)/\∀w,w≠v->idx l7 w=idx left w:=by
      have hz:=hl.2 v hi h2 hop
      by_cases h0:idx left v=some 0
      · obtain⟨l7,k1,k2,k3,k4⟩:=wU wf hB hr hl.1 h0
        refine⟨l7,?_,k2,?_,k4⟩
        · simp only[h0,bE,hr,k1,bJ]
          rfl
        · rw[k3,hre]
          congr 2
          rcases hz with h | ⟨_,h⟩
          · rw[h0]at h
            have:=Option.some.inj h
            omega
          · exact eP λy hy hi=>⟨λh=>h.elim,λhd=>h y (by rw[hre];exact hy) hi hd⟩
      · rcases hz with h | ⟨h,_⟩
        · refine⟨left,?_,hl.1,h,λ_ _=>rfl⟩
          have:((lf (cv x.game.Arena v) (In B) (dn T u L v):Int)==0)=false:=by
           have:lf (cv x.game.Arena v) (In B) (dn T u L v)≠0:=λe=>h0 (by rw[h,e];rfl)
           simp[this]
          simp only[h,bE,this,cond_false]
        · exact absurd h h0
     obtain⟨l7,c1,c2,c3,c4⟩:=hcount
     have hsplit:∀{β:Type} (f:List Int->Option β),(bC (idx left v) λx69=>bC (bif (x69==0) then
      bC (idx x.game.Arena.Next v) λx79=>
      bC (cntM (cO B v x79) x79.length 0 left) λq9=>
      aft (λr=>none) (λs10=>
       some (s10:(List Int))) q9
      else
       some left) f)=bC (some l7) f:=λf=>by rw[← c1];cases idx left v <;> rfl
     rw[hsplit,bE,c3,bE,bE]
     have hwrl:IntKind.i64.wrap ((lf (cv x.game.Arena v) (In B) (dn T u L v):Int)-1)=(lf (cv x.game.Arena v) (In B) (λy=>y∈T\/y=u):Int):=by rw[wr' (by omega) (by omega)];omega
     obtain⟨l8,hs,hsl⟩:=cF (xs:=l7) (i:=v) (lf (cv x.game.Arena v) (In B) (λy=>y∈T\/y=u):Int) v0 (by omega)
     have hnew:idx l8 v=some (lf (cv x.game.Arena v) (In B) (λy=>y∈T\/y=u):Int):=by rw[cS hs,if_pos rfl]
     have hoth:∀w,w≠v->idx l8 w=idx left w:=λw hw=>by rw[cS hs,if_neg hw,c4 w hw]
     rw[hwrl,hs,bE,hnew,bE]
     by_cases hc:lf (cv x.game.Arena v) (In B) (λy=>y∈T\/y=u)=0
     · have:decide ((0:Int)<(lf (cv x.game.Arena v) (In B) (λy=>y∈T\/y=u):Int))=false:=by simp[hc]
       rw[this,cond_false]
       exact hadd l8 ⟨by omega,hoth⟩ hi h2 (.inr hc)
     · have:decide ((0:Int)<(lf (cv x.game.Arena v) (In B) (λy=>y∈T\/y=u):Int))=true:=by simp;omega
       rw[this,cond_true]
       subst hR
       refine⟨R,out,l8,rfl,hm.stay hop hc,ho,⟨by omega,λw hw hq hop'=>?_⟩,λ_ h=>h⟩
       by_cases e:w=v
       · subst e
         left
         rw[hnew]
         congr 2
         exact eP λy _ _=>rj.symm
       · have:=hl.2 w hw hq hop'
         unfold LI at this ⊢
         rw[hoth w e]
         exact LI.congr (left:=left) this λy _ _=>(gh e).symm
end
end Go.Proofs.YtleekpaohfpooaaGreat
set_option linter.unusedVariables false
set_option linter.unusedSimpArgs false
namespace Go.Proofs.YtleekpaohfpooaaGreat
open Go Go.Wk Go.Proofs
def hasN (N:List (List Int)) (u:Int) (v:Nat):Bool:=match N[v]? with
 | some r=>decide (u∈r)
 | none=>false
def prevL (N:List (List Int)) (u:Int) (j:Nat):List Int:=((List.range j).filter (hasN N u)).map Int.ofNat
theorem ub (N:List (List Int)) (u:Int) (j:Nat):prevL N u (j+1)=prevL N u j++(if hasN N u j=true then[(j:Int)] else[]):=by
 unfold prevL
 rw[List.range_succ,List.filter_append,List.map_append]
 congr 1
 by_cases h:hasN N u j=true
 · rw[if_pos h,List.filter_cons,if_pos h];rfl
 · rw[if_neg h,List.filter_cons,if_neg h];rfl
theorem ng:∀{xs:List Nat},xs.Nodup->(xs.map Int.ofNat).Nodup
 | [],_=>by simp
 | x::xs,h=>by
  obtain⟨h1,h2⟩:=List.nodup_cons.1 h
  rw[List.map_cons,List.nodup_cons]
  refine⟨λhm=>?_,ng h2⟩
  obtain⟨y,hy,e⟩:=List.mem_map.1 hm
  have:y=x:=Int.ofNat.inj e
  exact h1 (this ▸ hy)
theorem oJ (N:List (List Int)) (u:Int) (j:Nat):(prevL N u j).Nodup:=by
 unfold prevL
 exact ng (List.nodup_range.filter _)
theorem oC (N:List (List Int)) (u:Int) (j:Nat):(prevL N u j).length<=j:=by
 unfold prevL
 rw[yW]
 exact Nat.le_trans (List.length_filter_le _ _) (by rw[List.length_range];omega)
theorem qP {N:List (List Int)}{u v:Int}{n:Nat}(hn:N.length=n):v∈prevL N u n↔∃r,idx N v=some r/\u∈r:=by
 unfold prevL
 rw[List.mem_map]
 constructor
 · rintro⟨w,hw,rfl⟩
   obtain⟨h1,h2⟩:=List.mem_filter.1 hw
   unfold hasN at h2
   rw[List.mem_range]at h1
   have e:N[w]? =some N[w]:=gs (by omega)
   rw[e]at h2
   exact⟨N[w],by rw[show(Int.ofNat w)=(w:Int) from rfl,bH,e],by simpa using h2⟩
 · rintro⟨r,hr,hu⟩
   obtain⟨h0,h1⟩:=cq hr
   obtain⟨w,hw⟩:=ew h0
   subst hw
   rw[bH]at hr
   refine⟨w,List.mem_filter.2 ⟨List.mem_range.2 (by omega),?_⟩,rfl⟩
   unfold hasN
   rw[hr]
   simpa using hu
def PrevM (N:List (List Int)) (n j:Nat) (row:List Int) (i:Nat) (t:List (List Int)):Prop:=t.length=n/\∀u:Int,0<=u->u<n->idx t u=some (prevL N u j++(if u∈row.take i then[(j:Int)] else[]))
def PrevT (N:List (List Int)) (n j:Nat) (t:List (List Int)):Prop:=t.length=n/\∀u:Int,0<=u->u<n->idx t u=some (prevL N u j)
theorem PrevT.zero {N:List (List Int)}{n:Nat}:PrevT N n 0 (sh n []):=⟨by simp,λu u0 u1=>by
 rw[cE u0,yF,if_pos (by omega)];rfl⟩
theorem PrevT.first {N:List (List Int)}{n j:Nat}{t:List (List Int)}(h:PrevT N n j t) (row:List Int):PrevM N n j row 0 t:=⟨h.1,λu u0 u1=>by rw[h.2 u u0 u1];simp⟩
theorem PrevM.last {N:List (List Int)}{n j:Nat}{row:List Int}{t:List (List Int)}(hr:N[j]? =some row) (h:PrevM N n j row row.length t):PrevT N n (j+1) t:=⟨h.1,λu u0 u1=>by
 rw[h.2 u u0 u1,ub,List.take_length]
 unfold hasN
 rw[hr]
 by_cases hu:u∈row <;> simp[hu]⟩
theorem PrevM.step {N:List (List Int)}{n j i:Nat}{row:List Int}{t:List (List Int)}{u:Int}(h:PrevM N n j row i t) (hu:row[i]? =some u) (hn:row.Nodup) (u0:0<=u) (u1:u<n):
 ∃old,idx t u=some old/\old.length<=j+1/\∃t',setI t u (old++[(j:Int)])=some t'/\PrevM N n j row (i+1) t':=by
 refine⟨_,h.2 u u0 u1,?_,?_⟩
 · have:=oC N u j
   rw[yK]
   split
   · simp;omega
   · simp;omega
 · have hnot:u∉row.take i:=by
    have h2:=hn.sublist (List.take_sublist (i+1) row)
    rw[yU,hu,List.nodup_append]at h2
    exact λhm=>h2.2.2 u hm u (by simp) rfl
   obtain⟨t',h1,h2⟩:=cF (xs:=t) (i:=u) (prevL N u j++(if u∈row.take i then[(j:Int)] else[])++[(j:Int)]) u0 (by rw[h.1];exact u1)
   refine⟨t',h1,by rw[h2];exact h.1,λw w0 w1=>?_⟩
   have htk:row.take (i+1)=row.take i++[u]:=by rw[yU,hu];rfl
   rw[cS h1,htk]
   by_cases e:w=u
   · subst e
     rw[if_pos rfl,if_neg hnot]
     simp
   · rw[if_neg e,h.2 w w0 w1]
     congr 2
     simp[e]
def cG (B:List Bool) (j:Nat):List Int:=((List.range j).filter (λv=>B[v]?.getD false)).map Int.ofNat
theorem sx {B:List Bool}{j:Nat}{b:Bool}(h:B[j]? =some b):cG B (j+1)=cG B j++(if b=true then[(j:Int)] else[]):=by
 unfold cG
 rw[List.range_succ,List.filter_append,List.map_append]
 congr 1
 rw[List.filter_cons,h]
 cases b <;> rfl
theorem lm (B:List Bool) (j:Nat):(cG B j).Nodup:=by
 unfold cG
 exact ng (List.nodup_range.filter _)
theorem lz (B:List Bool) (j:Nat):(cG B j).length<=j:=by
 unfold cG
 rw[yW]
 exact Nat.le_trans (List.length_filter_le _ _) (by rw[List.length_range];omega)
theorem cD {B:List Bool}{v:Int}:v∈cG B B.length↔In B v:=by
 unfold cG In
 rw[List.mem_map]
 constructor
 · rintro⟨w,hw,rfl⟩
   obtain⟨h1,h2⟩:=List.mem_filter.1 hw
   rw[List.mem_range]at h1
   rw[show(Int.ofNat w)=(w:Int) from rfl,bH]
   have e:B[w]? =some B[w]:=gs h1
   rw[e]at h2 ⊢
   simpa using h2
 · intro h
   obtain⟨h0,h1⟩:=cq h
   obtain⟨w,hw⟩:=ew h0
   subst hw
   rw[bH]at h
   exact⟨w,List.mem_filter.2 ⟨List.mem_range.2 (by omega),by rw[h];rfl⟩,rfl⟩
theorem qM {ys:List Int}:∀{xs:List Int},xs.Nodup->(∀x∈xs,x∈ys)->xs.length<=ys.length:=by
 induction ys with
 | nil=>
  intro xs _ h
  cases xs with
  | nil=>simp
  | cons x xs=>exact absurd (h x (List.mem_cons_self ..)) (by simp)
 | cons y ys ih=>
  intro xs hn h
  by_cases hm:y∈xs
  · have h1:=List.length_erase_of_mem hm
    have h2:=ih (xs:=xs.erase y) (hn.erase _) (λx hx=>by
     rw[hn.mem_erase_iff]at hx
     exact(List.mem_cons.1 (h x hx.2)).resolve_left hx.1)
    rw[yO]
    omega
  · have:=ih (xs:=xs) hn (λx hx=>(List.mem_cons.1 (h x hx)).resolve_left λe=>hm (e ▸ hx))
    rw[yO]
    omega
def cnt (B:List Bool):Nat:=(cG B B.length).length
theorem pG (B:List Bool):cnt B<=B.length:=lz _ _
theorem wG {A B:List Bool}(h:∀v,In A v->In B v):cnt A<=cnt B:=by
 unfold cnt
 exact qM (lm _ _) λv hv=>cD.2 (h v (cD.1 hv))
theorem rB {A B:List Bool}(h:∀v,In A v->In B v){w:Int}(hw:In B w) (hn:¬In A w):cnt A<cnt B:=by
 have hs:∀v∈w::cG A A.length,v∈cG B B.length:=λv hv=>by
  rcases List.mem_cons.1 hv with rfl | hv
  · exact cD.2 hw
  · exact cD.2 (h v (cD.1 hv))
 have hd:(w::cG A A.length).Nodup:=List.nodup_cons.2 ⟨λhm=>hn (cD.1 hm),lm _ _⟩
 have:=qM hd hs
 rw[yO]at this
 exact this
theorem qd {B:List Bool}(h:cnt B=0) (v:Int):¬In B v:=λhv=>by
 have:=cD.2 hv
 unfold cnt at h
 rw[List.length_eq_zero_iff]at h
 rw[h]at this
 cases this
end Go.Proofs.YtleekpaohfpooaaGreat
set_option linter.unusedVariables false
set_option linter.unusedSimpArgs false
namespace Go.Proofs.YtleekpaohfpooaaGreat
open Go Go.Wk Go.Proofs
theorem fill {ρ α:Type}{f:Int->List α->Option (ρ⊕(List α⊕List α))}(val:Nat->α) (n:Nat){s0:List α}(h0:s0.length=n)
 (step:∀(j:Nat) s,j<n->s.length=n->f (j:Int) s=bC (idx s (j:Int)) λ_=>bC (setI s (j:Int) (val j)) λy=>some (.inr (.inr y))):
 ∃s,cntM f n 0 s0=some (.inr s)/\s.length=n/\∀j:Nat,j<n->idx s (j:Int)=some (val j):=by
 obtain⟨s,h1,h2,h3⟩:=bX (f:=f) (λj (s:List α)=>s.length=n/\∀i:Nat,i<j->idx s (i:Int)=some (val i)) n (s:=s0) ⟨h0,λi hi=>absurd hi (Nat.not_lt_zero i)⟩ (λj s hj ⟨q1,q2⟩=>by
  obtain⟨old,ho⟩:=cj (xs:=s) (i:=(j:Int)) (by omega) (by omega)
  obtain⟨s',hs,hl⟩:=cF (xs:=s) (i:=(j:Int)) (val j) (by omega) (by omega)
  rw[step j s hj q1,ho,bE,hs,bE]
  refine⟨_,rfl,by omega,λi hi=>?_⟩
  rw[cS hs]
  by_cases e:(i:Int)=(j:Int)
  · have:i=j:=by omega
    subst this
    rw[if_pos rfl]
  · rw[if_neg e];exact q2 i (by omega))
 exact⟨s,h1,h2,h3⟩
theorem fillB {ρ:Type}{f:Int->List Bool->Option (ρ⊕(List Bool⊕List Bool))}(P:Int->Prop) [∀v,Decidable (P v)] (n:Nat){s0:List Bool}(h0:s0.length=n)
 (step:∀(j:Nat) s,j<n->s.length=n->f (j:Int) s=bC (idx s (j:Int)) λ_=>bC (setI s (j:Int) (decide (P (j:Int)))) λy=>some (.inr (.inr y))) (hP:∀v,P v->0<=v/\v<n):
 ∃s,cntM f n 0 s0=some (.inr s)/\s.length=n/\∀v,In s v↔P v:=by
 obtain⟨s,h1,h2,h3⟩:=fill (f:=f) (λj=>decide (P (j:Int))) n h0 step
 refine⟨s,h1,h2,λv=>?_⟩
 constructor
 · intro h
   obtain⟨v0,v1⟩:=cq h
   obtain⟨j,hj⟩:=ew v0
   subst hj
   have:=h3 j (by omega)
   unfold In at h
   rw[h]at this
   exact of_decide_eq_true (Option.some.inj this).symm
 · intro h
   obtain⟨v0,v1⟩:=hP v h
   obtain⟨j,hj⟩:=ew v0
   subst hj
   unfold In
   rw[h3 j (by omega),decide_eq_true h]
instance (B:List Bool) (v:Int):Decidable (In B v):=by unfold In;exact inferInstance
theorem xy {B:List Bool}{v:Int}{b:Bool}(h:idx B v=some b):b=decide (In B v):=by
 have:In B v↔b=true:=by unfold In;rw[h];simp
 rw[yR];simp[this]
theorem fF {B:List Bool}{v:Int}(h0:0<=v) (h1:v<B.length):idx B v=some (decide (In B v)):=by
 obtain⟨b,hb⟩:=cj (xs:=B) h0 h1
 rw[← xy hb];exact hb
theorem jp {B:List Bool}{n:Nat}(hB:B.length=n){v:Int}(h:In B v):0<=v/\v<n:=by
 have:=cq h
 rw[hB]at this
 exact this
end Go.Proofs.YtleekpaohfpooaaGreat
set_option linter.unusedVariables false
set_option linter.unusedSimpArgs false
namespace Go.Proofs.YtleekpaohfpooaaGreat
open Go Go.Wk Go.Proofs
theorem kO {B:List Bool}(hl:B.length<=1000000):gr B=some (cG B B.length):=by
 obtain⟨s,h1,h2⟩:=bX (f:=jh B) (λj (s:List Int)=>s=cG B j) B.length (s:=[]) rfl (λj s hj hs=>by
  subst hs
  have hb:B[j]? =some B[j]:=gs hj
  generalize B[j]=b at hb
  have hlen:=lz B j
  unfold jh
  rw[bH,hb,bE,sx hb]
  cases b with
  | true=>
   simp only[cond_true]
   rw[app1 (by omega) rfl,bE,bE]
   exact⟨_,rfl,rfl⟩
  | false=>
   simp only[cond_false,bE]
   exact⟨_,rfl,by simp⟩)
 unfold gr
 rw[h1,bE,bJ,h2]
theorem lB {A B:List Bool}{n:Nat}(hA:A.length=n) (hB:B.length=n) (hn:n<=256):∃R,eU A B=some R/\R.length=n/\∀v,In R v↔In A v/\¬In B v:=by
 unfold eU
 rw[hA,di (by omega) rfl,bE]
 obtain⟨R,h1,h2,h3⟩:=fillB (f:=gW A B) (λv=>In A v/\¬In B v) n (s0:=sh n false) (by simp) (λj s hj hs=>by
  unfold gW
  rw[fF (B:=A) (by omega) (by omega),bE,fF (B:=B) (by omega) (by omega),bE,andE,bE]
  congr 1
  funext _
  congr 2
  rw[yR];simp) (λv hv=>jp hA hv.1)
 rw[h1,bE,bJ]
 exact⟨R,rfl,h2,h3⟩
end Go.Proofs.YtleekpaohfpooaaGreat
set_option linter.unusedVariables false
set_option linter.unusedSimpArgs false
namespace Go.Proofs.YtleekpaohfpooaaGreat
open Go Go.Wk Go.Proofs
section
variable {x:solver}{n:Nat}(wf:WfI x n){B:List Bool}(hB:B.length=n)
include wf hB
omit wf in
theorem qH {p:Bool}{goal:Int->Prop}{Q:List Int}(h:Cert (cv x.game.Arena) (ownL x.game.Arena.Owner) (In B) p goal Q):Q.length<=n:=cW n Q h.nd λv hv=>pp hB (h.mem v hv)
theorem vX {goal:List Bool}(hG:goal.length=n) (p:Bool) (hN:Par.NoDead (gI x.game) (In B)) (hsub:∀v,In goal v->In B v):∃A,fa x (b2i p) B goal=some A/\A.length=n/\Par.IsAttr (gI x.game) (In B) p (In goal) (In A):=by
 have hn:=wf.n256
 unfold fa
 rw[appL (by rw[yQ];omega) rfl,bE,hB,di (by omega) rfl,bE,kO (by omega),bE,List.nil_append]
 have hgm:∀v,v∈cG goal goal.length↔In goal v:=λv=>cD
 have hc0:Cert (cv x.game.Arena) (ownL x.game.Arena.Owner) (In B) p (In goal) (cG goal goal.length):=⟨lm _ _,λv hv=>hsub v ((hgm v).1 hv),λk v hk=> .inl ((hgm v).1 (yB hk))⟩
 have ht0:Trap (cv x.game.Arena) (ownL x.game.Arena.Owner) (In B) p (cG goal goal.length) (λ_ y=>y∈([]:List Int)):=λv hv hq=>⟨λ_ y _ _ h=>by simp at h,λho=>by
  obtain⟨u,e1,e2⟩:=hN v hv
  exact⟨u,e1,e2,by simp⟩⟩
 obtain⟨o,w1,w2⟩:=cB (f:=ea x (b2i p) B) (λj (s:List Int×List Bool×List Int)=>∃T Q,Q=T++s.1/\T.length=j/\Cert (cv x.game.Arena) (ownL x.game.Arena.Owner) (In B) p (In goal) Q/\(∀v,In goal v->v∈Q)/\Trap (cv x.game.Arena) (ownL x.game.Arena.Owner) (In B) p Q (λ_ y=>y∈T) /\
  (s.2.1.length=n/\∀v:Int,0<=v->v<n->idx s.2.1 v=some (decide (v∈Q)))/\(s.2.2.length=n/\∀w,In B w->w∉Q->¬ownL x.game.Arena.Owner w=p->LI x B s.2.2 w (λy=>y∈T))) (λ_=>False)
  (λs=>∃Q,Cert (cv x.game.Arena) (ownL x.game.Arena.Owner) (In B) p (In goal) Q/\(∀v,In goal v->v∈Q)/\Trap (cv x.game.Arena) (ownL x.game.Arena.Owner) (In B) p Q (λ_ y=>y∈Q)/\(s.2.1.length=n/\∀v:Int,0<=v->v<n->idx s.2.1 v=some (decide (v∈Q)))) n (λj s ⟨T,Q,a1,a2,a3,a4,a5,a6,a7⟩=>by
  obtain⟨R,out,left⟩:=s
  dsimp only at a1 a6 a7
  have hQn:=qH hB a3
  unfold ea
  dsimp only
  cases R with
  | nil=>
   rw[List.append_nil]at a1
   subst a1
   simp only[yQ,Int.natCast_zero,Int.lt_irrefl,decide_false,cond_false]
   exact⟨_,rfl,Q,a3,a4,a5,a6⟩
  | cons u R=>
   have hlt:(0:Int)<((u::R).length:Int):=by simp only[yO];omega
   obtain⟨u0,u1⟩:=pp hB (a3.mem u (by rw[a1];simp))
   obtain⟨P,hP⟩:=cj (xs:=x.preds) u0 (by rw[wf.lv];exact u1)
   obtain⟨p1,p2,p3⟩:=wf.prev u P hP
   have e2:idx (u::R) 0=some u:=rfl
   have e3:subS (u::R) 1 ((u::R).length:Int)=some R:=by
    unfold subS
    rw[if_pos ⟨by omega,by simp only[yO];omega,by omega⟩,Int.toNat_natCast,List.take_length]
    rfl
   have hm0:Mid (cv x.game.Arena) (ownL x.game.Arena.Owner) (In B) p (In goal) T u [] Q:=by
    have:=Mid.first (T:=T) (u:=u) (R:=R) (a1 ▸ a3) (a1 ▸ a5)
    rwa [← a1]at this
   obtain⟨s',v1,v2⟩:=bX (f:=dt x (b2i p) B P) (λk (s:List Int×List Bool×List Int)=>Mid (cv x.game.Arena) (ownL x.game.Arena.Owner) (In B) p (In goal) T u (P.take k) (T++u::s.1) /\
    (s.2.1.length=n/\∀v:Int,0<=v->v<n->idx s.2.1 v=some (decide (v∈T++u::s.1)))/\(s.2.2.length=n/\∀w,In B w->w∉T++u::s.1->¬ownL x.game.Arena.Owner w=p->LI x B s.2.2 w (dn T u (P.take k) w))/\(∀v∈Q,v∈T++u::s.1)) P.length (s:=(R,out,left))
    ⟨by dsimp only;rw[← a1];simpa using hm0,by dsimp only;rw[← a1];exact a6,⟨a7.1,λw hw hq ho=>by
     dsimp only at hq
     rw[← a1]at hq
     exact LI.congr (a7.2 w hw hq ho) λy _ _=>(lc (by simp)).symm⟩,λv hv=>by dsimp only;rw[← a1];exact hv⟩ (λk s hk ⟨b3,b4,b5,b6⟩=>by
    obtain⟨R',out',left'⟩:=s
    dsimp only at b3 b4 b5 b6
    have hv:P[k]? =some P[k]:=gs hk
    generalize P[k]=v at hv
    have hQ'n:=qH hB b3.cert
    obtain⟨R2,o2,l2,c1,c2,c3,c4,c5⟩:=tm wf hB b3 rfl (qh p1 hv) hP hv (by omega) b4 b5
    refine⟨_,c1,?_,c3,?_,λv hv=>c5 v (b6 v hv)⟩
    · rw[gN hv];exact c2
    · rw[gN hv];exact c4)
   obtain⟨R',out',left'⟩:=s'
   obtain⟨c1,c2,c3,c4⟩:=v2
   rw[List.take_length]at c1 c3
   dsimp only at c1 c2 c3 c4
   simp only[hlt,decide_true,cond_true,e2,e3,bE,hP,v1,bJ]
   have hall:∀v,In B v->u∈cv x.game.Arena v->v∈P:=λv hv hu=>by
    rw[p3]
    unfold cv at hu
    cases hr:idx x.game.Arena.Next v with
    | none=>rw[hr]at hu;simp at hu
    | some r=>rw[hr]at hu;exact⟨r,rfl,hu⟩
   have hjn:j<n:=by
    have:=congrArg List.length a1
    rw[yK,yO]at this
    omega
   refine⟨_,rfl,hjn,T++[u],T++u::R',by simp,by rw[yK,a2];rfl,c1.cert,λv hg=>c4 v (a4 v hg),c1.last hall,c2,c3.1,λw hw hq ho=>?_⟩
   refine LI.congr (c3.2 w hw hq ho) λy hy _=>?_
   unfold dn
   rw[yT,yM]
   constructor
   · rintro(h | ⟨h,_⟩)
     · exact .inl h
     · exact .inr h
   · rintro(h | h)
     · exact .inl h
     · exact .inr ⟨h,hall w hw (h ▸ hy)⟩) (2 ^ 64) 0 (cG goal goal.length,goal,sh n 0) (by omega) ⟨[],cG goal goal.length,rfl,rfl,hc0,λv hg=>(hgm v).2 hg,ht0,⟨hG,λv v0 v1=>by
     dsimp only
     rw[fF (B:=goal) v0 (by omega)]
     congr 1
     exact decide_eq_decide.2 (hgm v).symm⟩,⟨by simp,λw hw hq ho=> .inr ⟨by
     have:=pp hB hw
     dsimp only
     rw[cE this.1,yF,if_pos (by omega)],λy _ _ h=>by simp at h⟩⟩⟩ (by omega)
 match o,w2 with
 | .inr s,⟨Q,k1,k2,k3,k4⟩=>
  rw[w1,bE,bJ]
  refine⟨_,rfl,k4.1,?_⟩
  have ha:=k1.attr (pri:=priL x.game.Prio) (λv _ hg=>k2 v hg) k3
  have e:(λv=>v∈Q)=In s.2.1:=by
   funext v
   apply propext
   constructor
   · intro hv
     obtain⟨v0,v1⟩:=pp hB (k1.mem v hv)
     unfold In;rw[k4.2 v v0 v1];simp[hv]
   · intro hv
     have hr:=cq hv
     unfold In at hv
     rw[k4.2 v hr.1 (by omega)]at hv
     simpa using hv
  rw[← e];exact ha
end
end Go.Proofs.YtleekpaohfpooaaGreat
set_option linter.unusedVariables false
set_option linter.unusedSimpArgs false
namespace Go.Proofs.YtleekpaohfpooaaGreat.Par
open Classical
variable {G:Gm}{X Y:Int->Prop}{p:Bool}{S S' A A2 W W2 D:Int->Prop}
theorem IsAttr.congrS (h:IsAttr G X p S A) (e:∀v,X v->(S v↔S' v)):IsAttr G X p S' A:=by
 obtain⟨r,hr⟩:=h.rank
 refine⟨h.sub,λv hx hs=>h.base v hx ((e v hx).2 hs),⟨r,λv hv=>?_⟩,h.mine,h.yours⟩
 rcases hr v hv with k | k
 · exact .inl ((e v (h.sub v hv)).1 k)
 · exact .inr k
structure Red (G:Gm) (X Y:Int->Prop) (p:Bool):Prop where
 sub:∀v,Y v->X v
 mine:∀D,Dom G Y p D->Dom G X p D
 yours:∀D,Dom G Y (!p) D->Dom G X (!p) (λv=>Mn X Y v\/D v)
theorem Red.refl:Red G X X p:=⟨λ_ h=>h,λ_ h=>h,λD h=>h.congr λv=>⟨.inr,λh=>h.resolve_left λh=>h.2 h.1⟩⟩
theorem Red.step (h:Red G X Y p) (hA:IsAttr G Y p S A) (hW:Sol G (Mn Y A) p W) (h2:IsAttr G Y (!p) (Mn (Mn Y A) W) A2):Red G X (Mn Y A2) p:=by
 have hL:Dom G Y (!p) (Mn (Mn Y A) W):=Dom.lift hA hW.yours
 refine⟨λv hv=>h.sub v hv.1,λD hD=>h.mine D ?_,λD hD=>(h.yours _ (Dom.grow hL h2 hD)).congr λv=>?_⟩
 · have:=Dom.lift (p:= !p) (D:=D) h2 (by rwa [Bool.not_not])
   rwa [Bool.not_not]at this
 · constructor
   · rintro(⟨k1,k2⟩ | k | k)
     · exact .inl ⟨k1,λk=>k2 k.1⟩
     · exact .inl ⟨h.sub v (h2.sub v k),λk'=>k'.2 k⟩
     · exact .inr k
   · rintro(⟨k1,k2⟩ | k)
     · by_cases hy:Y v
       · by_cases ha:A2 v
         · exact .inr (.inl ha)
         · exact absurd ⟨hy,ha⟩ k2
       · exact .inl ⟨k1,hy⟩
     · exact .inr (.inr k)
theorem Red.sol (h:Red G X Y p) (hY:Sol G Y p W):Sol G X p W:=⟨λv hv=>h.sub v (hY.sub v hv),h.mine W hY.mine,(h.yours _ hY.yours).congr λv=>by
 constructor
 · rintro(⟨k1,k2⟩ | k)
   · exact⟨k1,λk=>k2 (hY.sub v k)⟩
   · exact⟨h.sub v k.1,k.2⟩
 · rintro⟨k1,k2⟩
   by_cases hy:Y v
   · exact .inr ⟨hy,k2⟩
   · exact .inl ⟨k1,hy⟩⟩
theorem Sol.all (h:Dom G Y p Y):Sol G Y p Y:=⟨λ_ h=>h,h,Dom.empty.congr λv=>⟨λh=>h.elim,λh=>h.2 h.1⟩⟩
theorem Sol.none (h:∀v,¬X v):Sol G X p W->∀v,¬W v:=λhs v hv=>h v (hs.sub v hv)
theorem Sol.void (h:∀v,¬X v):Sol G X p X:=Sol.all (Dom.empty.congr λv=>⟨λh=>h.elim,λhx=>h v hx⟩)
theorem Sol.top {d:Int}(hN:NoDead G X) (hd:∀v,X v->G.pri v<=d) (hp:oddP d=p) (hA:IsAttr G X p (λv=>G.pri v=d) A) (hW:Sol G (Mn X A) p W) (hE:∀v,Mn X A v->W v):Sol G X p X:=
 Sol.all (Dom.top hN hd hp hA (hW.mine.congr λv=>⟨hW.sub v,hE v⟩))
theorem Sol.asP {q:Bool}(h:Sol G X q W) (p:Bool):Sol G X p (λv=>X v/\(W v↔p=q)):=by
 by_cases e:p=q
 · subst e
   exact h.congr λv=>⟨λhv=>⟨h.sub v hv,⟨λ_=>rfl,λ_=>hv⟩⟩,λhv=>hv.2.2 rfl⟩
 · have:p= !q:=by revert e;cases p <;> cases q <;> simp
   subst this
   exact h.flip.congr λv=>⟨λhv=>⟨hv.1,⟨λhw=>absurd hw hv.2,λe'=>absurd e' e⟩⟩,λhv=>⟨hv.1,λhw=>e (hv.2.1 hw)⟩⟩
end Go.Proofs.YtleekpaohfpooaaGreat.Par
set_option linter.unusedVariables false
set_option linter.unusedSimpArgs false
namespace Go.Proofs.YtleekpaohfpooaaGreat
open Go Go.Wk Go.Proofs
theorem nT {P:List Int}{v:Int}(h0:0<=v) (h1:v<P.length):idx P v=some (priL P v):=by
 obtain⟨q,hq⟩:=cj (xs:=P) h0 h1
 unfold priL;rw[hq];rfl
def PriOk (P:List Int):Prop:=∀v q,idx P v=some q->0<=q/\q<=40
theorem sf {d:Int}(h:0<=d):Int.tmod d 2=b2i (Par.oddP d):=by
 rw[Int.tmod_eq_emod_of_nonneg h]
 unfold Par.oddP b2i
 by_cases e:d % 2=1
 · simp[e]
 · simp[e];omega
theorem nP (p:Bool):(b2i p==0)= !p:=by cases p <;> rfl
theorem vG (p:Bool):(b2i p==1)=p:=by cases p <;> rfl
theorem mW (p q:Bool):(b2i p==b2i q)=(p==q):=by cases p <;> cases q <;> rfl
theorem mU (p:Bool):IntKind.i64.wrap (1-b2i p)=b2i (!p):=by cases p <;> decide
theorem qK {A B:List Bool}{n:Nat}(hA:A.length=n) (hB:B.length=n) (hn:n<=256):∃R,kS A B=some R/\R.length=n/\∀v,In R v↔In A v/\¬In B v:=by
 unfold kS
 rw[hA,di (by omega) rfl,bE]
 obtain⟨R,h1,h2,h3⟩:=fillB (f:=i8 A B) (λv=>In A v/\¬In B v) n (s0:=sh n false) (by simp) (λj s hj hs=>by
  unfold i8
  rw[fF (B:=A) (by omega) (by omega),bE,fF (B:=B) (by omega) (by omega),bE,andE,bE]
  congr 1
  funext _
  congr 2
  rw[yR];simp) (λv hv=>jp hA hv.1)
 rw[h1,bE,bJ]
 exact⟨R,rfl,h2,h3⟩
section
variable {x:l7Game}{n:Nat}(wf:WfS x n) (hp:PriOk x.prio)
include wf hp
theorem xr {B:List Bool}(hB:B.length=n):∃d:Int,nX x B=some d/\d<=40/\(∀v,In B v->priL x.prio v<=d)/\((d= -1/\∀v,¬In B v)\/(0<=d/\∃v,In B v/\priL x.prio v=d)):=by
 have hlp:=wf.lp
 obtain⟨s,h1,h2,h3,h4⟩:=bX (f:=jV x B) (λj (s:Int)=>s<=40/\(∀v,v<(j:Int)->In B v->priL x.prio v<=s)/\((s= -1/\∀v,v<(j:Int)->¬In B v)\/(0<=s/\∃v,In B v/\priL x.prio v=s))) B.length (s:=(-1:Int)) ⟨by omega,λv hv hi=>by
  have:=jp hB hi;omega,.inl ⟨rfl,λv hv hi=>by have:=jp hB hi;omega⟩⟩ (λj s hj ⟨q1,q2,q3⟩=>by
  rw[hB]at hj
  unfold jV
  have hq:=nT (P:=x.prio) (v:=(j:Int)) (by omega) (by omega)
  obtain⟨d0,d1⟩:=hp _ _ hq
  rw[fF (B:=B) (by omega) (by omega),bE,hq]
  by_cases hi:In B (j:Int)
  · simp only[hi,decide_true,cond_true,bE]
    unfold jx
    by_cases hlt:priL x.prio (j:Int)<s
    · simp only[hlt,decide_true,cond_true,bE]
      refine⟨_,rfl,q1,λv hv hi'=>?_,?_⟩
      · by_cases e:v=(j:Int)
        · subst e;omega
        · exact q2 v (by omega) hi'
      · rcases q3 with ⟨e,_⟩ | h
        · omega
        · exact .inr h
    · simp only[hlt,decide_false,cond_false,bE]
      refine⟨_,rfl,d1,λv hv hi'=>?_,.inr ⟨d0,(j:Int),hi,rfl⟩⟩
      by_cases e:v=(j:Int)
      · subst e;omega
      · have:=q2 v (by omega) hi';omega
  · simp only[hi,decide_false,cond_false,bE]
    refine⟨_,rfl,q1,λv hv hi'=>?_,?_⟩
    · by_cases e:v=(j:Int)
      · subst e;exact absurd hi' hi
      · exact q2 v (by omega) hi'
    · rcases q3 with ⟨e,h⟩ | h
      · refine .inl ⟨e,λv hv hi'=>?_⟩
        by_cases e:v=(j:Int)
        · subst e;exact hi hi'
        · exact h v (by omega) hi'
      · exact .inr h)
 unfold nX
 rw[h1,bE,bJ]
 refine⟨s,rfl,h2,λv hv=>h3 v (by have:=jp hB hv;omega) hv,?_⟩
 rcases h4 with ⟨e,h⟩ | h
 · exact .inl ⟨e,λv hv=>h v (by have:=jp hB hv;omega) hv⟩
 · exact .inr h
omit wf hp in
theorem xP {rest low:List Bool}{d:Int}{p:Bool}(hd:Int.tmod d 2=b2i p) (hr:rest.length=n) (hl:low.length=n):∃L b,cntM (iH d rest low) n 0 (false,sh n false)=some (.inr (b,L))/\L.length=n/\(∀v,In L v↔In rest v/\(In low v↔p=true))/\(b=true↔∃v,In L v):=by
 let val:Nat->Bool:=λj=>decide (In rest (j:Int)/\(In low (j:Int)↔p=true))
 obtain⟨s,h1,h2,h3,h4⟩:=bX (f:=iH d rest low) (λj (s:Bool×List Bool)=>s.2.length=n/\(∀i:Nat,i<j->idx s.2 (i:Int)=some (val i))/\(s.1=true↔∃i:Nat,i<j/\val i=true)) n (s:=(false,sh n false)) ⟨by simp,λi hi=>absurd hi (Nat.not_lt_zero i),by simp⟩ (λj s hj ⟨q1,q2,q3⟩=>by
  obtain⟨b,L⟩:=s
  dsimp only at q1 q2 q3
  obtain⟨old,ho⟩:=cj (xs:=L) (i:=(j:Int)) (by omega) (by omega)
  obtain⟨L',hs,hl'⟩:=cF (xs:=L) (i:=(j:Int)) (val j) (by omega) (by omega)
  have hv:(decide (In rest (j:Int))&&(decide (In low (j:Int)) != !p))=val j:=by
   show _=decide (In rest (j:Int)/\(In low (j:Int)↔p=true))
   rw[yR]
   cases p <;> simp
  have hnew:idx L' (j:Int)=some (val j):=by rw[cS hs,if_pos rfl]
  unfold iH
  dsimp only
  rw[fF (B:=rest) (by omega) (by omega),bE,fF (B:=low) (by omega) (by omega),bE,andE,bE,hd,nP,hv,ho,bE,hs,bE,hnew,bE,orE,bE]
  refine⟨_,rfl,by dsimp only;omega,λi hi=>?_,?_⟩
  · dsimp only
    rw[cS hs]
    by_cases e:(i:Int)=(j:Int)
    · have:i=j:=by omega
      subst this
      rw[if_pos rfl]
    · rw[if_neg e];exact q2 i (by omega)
  · dsimp only
    rw[Bool.or_eq_true,q3]
    constructor
    · rintro(⟨i,hi,h⟩ | h)
      · exact⟨i,by omega,h⟩
      · exact⟨j,by omega,h⟩
    · rintro⟨i,hi,h⟩
      by_cases e:i=j
      · subst e;exact .inr h
      · exact .inl ⟨i,by omega,h⟩)
 obtain⟨b,L⟩:=s
 dsimp only at h2 h3 h4
 have hIn:∀v,In L v↔In rest v/\(In low v↔p=true):=λv=>by
  constructor
  · intro h
    obtain⟨v0,v1⟩:=cq h
    obtain⟨j,hj⟩:=ew v0
    subst hj
    have:=h3 j (by omega)
    unfold In at h
    rw[h]at this
    exact of_decide_eq_true (Option.some.inj this).symm
  · intro h
    obtain⟨v0,v1⟩:=jp hr h.1
    obtain⟨j,hj⟩:=ew v0
    subst hj
    unfold In
    rw[h3 j (by omega)]
    congr 1
    exact decide_eq_true h
 refine⟨L,b,h1,h2,hIn,?_⟩
 rw[h4]
 constructor
 · rintro⟨i,hi,h⟩
   exact⟨(i:Int),(hIn _).2 (of_decide_eq_true h)⟩
 · rintro⟨v,hv⟩
   obtain⟨v0,v1⟩:=jp h2 hv
   obtain⟨j,hj⟩:=ew v0
   subst hj
   exact⟨j,by omega,decide_eq_true ((hIn _).1 hv)⟩
theorem vU:∀(k:Nat) (B:List Bool) (f:Nat),B.length=n->Par.NoDead (gS x) (In B)->cnt B<=k->k<f->∃R,jq f x B=some R/\R.length=n/\Par.Sol (gS x) (In B) false (In R):=by
 have hn:=wf.n256
 intro k
 induction k with
 | zero=>
  intro B f hB hN hk hf
  obtain⟨f,rfl⟩:∃g,f=g+1:=⟨f-1,by omega⟩
  show ∃R,iF (jq f) x B=some R/\_
  unfold iF
  obtain⟨d,t1,t2,t3,t4⟩:=xr wf hp hB
  have hno:=qd (B:=B) (by omega)
  rcases t4 with ⟨e,_⟩ | ⟨_,v,hv,_⟩
  · subst e
    rw[t1,bE,hB,di (by omega) rfl,bE]
    refine⟨_,rfl,by simp,(Par.Sol.void hno).congr λv=>⟨λh=>absurd h (hno v),λh=>?_⟩⟩
    have hr:=cq h
    unfold In at h
    rw[cE hr.1,yF]at h
    split at h <;> simp at h
  · exact absurd hv (hno v)
 | succ k ih=>
  intro B f hB hN hk hf
  obtain⟨f,rfl⟩:∃g,f=g+1:=⟨f-1,by omega⟩
  show ∃R,iF (jq f) x B=some R/\_
  unfold iF
  obtain⟨d,t1,t2,t3,t4⟩:=xr wf hp hB
  rcases t4 with ⟨e,hno⟩ | ⟨hd0,w,hw,hwd⟩
  · subst e
    rw[t1,bE,hB,di (by omega) rfl,bE]
    refine⟨_,rfl,by simp,(Par.Sol.void hno).congr λv=>⟨λh=>absurd h (hno v),λh=>?_⟩⟩
    have hr:=cq h
    unfold In at h
    rw[cE hr.1,yF]at h
    split at h <;> simp at h
  · have hneg:decide (d<0)=false:=by simp;omega
    have hwho:=sf hd0
    generalize hpe:Par.oddP d=p at hwho
    rw[t1,bE,hB,di (by omega) rfl,bE]
    simp only[hneg,cond_false,bE]
    obtain⟨goal,g1,g2,g3⟩:=fillB (f:=jG x B d) (λv=>In B v/\priL x.prio v=d) n (s0:=sh n false) (by simp) (λj s hj hs=>by
     unfold jG
     rw[fF (B:=B) (by omega) (by omega),bE,nT (P:=x.prio) (by omega) (by rw[wf.lp];omega),bE,andE,bE]
     congr 1
     funext _
     congr 2
     rw[yR];simp) (λv hv=>jp hB hv.1)
    rw[g1,bE,bJ,hwho]
    obtain⟨A,a1,a2,a3⟩:=wg wf hB g2 p hN
    have hA:Par.IsAttr (gS x) (In B) p (λv=>(gS x).pri v=d) (In A):=a3.congrS λv hv=>by rw[g3];exact⟨λh=>h.2,λh=>⟨hv,h⟩⟩
    obtain⟨rest,r1,r2,r3⟩:=qK hB a2 hn
    have hX1:∀v,Par.Mn (In B) (In A) v↔In rest v:=λv=>(r3 v).symm
    have e1:Par.Mn (In B) (In A)=In rest:=funext λv=>propext (hX1 v)
    have hN1:Par.NoDead (gS x) (In rest):=e1 ▸ hN.less hA
    have hc1:cnt rest<cnt B:=rB (λv hv=>((r3 v).1 hv).1) hw λh=>((r3 w).1 h).2 (a3.base w hw ((g3 w).2 ⟨hw,hwd⟩))
    obtain⟨low,l1,l2,l3⟩:=ih rest f r2 hN1 (by omega) (by omega)
    obtain⟨L,b,m1,m2,m3,m4⟩:=xP hwho r2 l2
    simp only[a1,bE,r1,l1,m1,bJ]
    have hW:=l3.asP p
    have hLe:∀v,In L v↔Par.Mn (In rest) (λv=>In rest v/\(In low v↔p=false)) v:=λv=>by
     rw[m3]
     unfold Par.Mn
     by_cases h1:In rest v <;> by_cases h2:In low v <;> cases p <;> simp[h1,h2]
    have eL:Par.Mn (In rest) (λv=>In rest v/\(In low v↔p=false))=In L:=funext λv=>propext (hLe v).symm
    cases hb:b with
    | false=>
     simp only[Bool.not_false,cond_true]
     have hno:∀v,¬In L v:=λv hv=>by
      have:=m4.2 ⟨v,hv⟩
      rw[hb]at this;cases this
     obtain⟨R,o1,o2,o3⟩:=fillB (f:=j7 B d) (λv=>In B v/\p=false) n (s0:=sh n false) (by simp) (λj s hj hs=>by
      unfold j7
      rw[fF (B:=B) (by omega) (by omega),bE,andE,bE,hwho,nP]
      congr 1
      funext _
      congr 2
      rw[yR];simp) (λv hv=>jp hB hv.1)
     rw[o1,bE,bJ]
     refine⟨R,rfl,o2,?_⟩
     have hS:Par.Sol (gS x) (In B) p (In B):=Par.Sol.top hN t3 hpe hA (e1.symm ▸ hW) λv hv=>by
      have hv:=(hX1 v).1 hv
      apply Classical.byContradiction
      intro hc
      exact hno v ((hLe v).2 ⟨hv,λh=>hc ⟨(hX1 v).2 hv,h.2⟩⟩)
     refine(hS.asP false).congr λv=>?_
     rw[o3]
     constructor
     · rintro⟨k1,k2⟩;exact⟨k1,(k2.1 k1).symm⟩
     · rintro⟨k1,k2⟩;exact⟨k1,λ_=>k2.symm,λ_=>k1⟩
    | true=>
     simp only[yJ,cond_false]
     obtain⟨w2,hw2⟩:=m4.1 hb
     obtain⟨A2,b1,b2,b3⟩:=wg wf hB m2 (!p) hN
     obtain⟨rest2,c1,c2,c3⟩:=qK hB b2 hn
     have e2:Par.Mn (In B) (In A2)=In rest2:=funext λv=>propext (c3 v).symm
     have hN2:Par.NoDead (gS x) (In rest2):=e2 ▸ hN.less b3
     have hw2B:In B w2:=((r3 w2).1 ((m3 w2).1 hw2).1).1
     have hc2:cnt rest2<cnt B:=rB (λv hv=>((c3 v).1 hv).1) hw2B λh=>((c3 w2).1 h).2 (b3.base w2 hw2B hw2)
     obtain⟨again,d1,d2,d3⟩:=ih rest2 f c2 hN2 (by omega) (by omega)
     rw[mU]
     simp only[b1,bE,c1,d1]
     obtain⟨R,o1,o2,o3⟩:=fillB (f:=jT d A2 again) (λv=>In again v\/(In A2 v/\p=true)) n (s0:=sh n false) (by simp) (λj s hj hs=>by
      unfold jT
      rw[fF (B:=again) (by omega) (by omega),bE,fF (B:=A2) (by omega) (by omega),bE,andE,bE,orE,bE,hwho,vG]
      congr 1
      funext _
      congr 2
      rw[yR];simp) (λv hv=>by
       rcases hv with h | h
       · exact jp d2 h
       · exact jp b2 h.1)
     rw[o1,bE,bJ]
     refine⟨R,rfl,o2,?_⟩
     have hRed:Par.Red (gS x) (In B) (Par.Mn (In B) (In A2)) p:=Par.Red.refl.step hA (e1.symm ▸ hW) (by rw[e1,eL];exact b3)
     have hS:=hRed.sol (e2.symm ▸ d3.asP p)
     refine(hS.asP false).congr λv=>?_
     rw[o3]
     have k1:In again v->In rest2 v:=d3.sub v
     have k2:In A2 v->In B v:=b3.sub v
     have k3:=c3 v
     by_cases h1:In B v <;> by_cases h2:In A2 v <;> by_cases h3:In again v <;> cases hpp:p <;> simp[h1,h2]at k1 k2 k3 <;> simp[h1,h2,h3,k3] <;> simp_all
end
end Go.Proofs.YtleekpaohfpooaaGreat
set_option linter.unusedVariables false
set_option linter.unusedSimpArgs false
namespace Go.Proofs.YtleekpaohfpooaaGreat
open Go Go.Wk Go.Proofs
theorem pE {B:List Bool}:∃b,cn B true=some b/\(b=true↔∃v,In B v):=by
 unfold cn dj
 obtain⟨o,h1,h2⟩:=pB (f:=cC B true) (λj (_:Unit)=>∀v,v<(j:Int)->¬In B v) (λr=>0<=r/\∃v,In B v) (λ_=>False) B.length (s:=()) (λv hv hi=>by have:=cq hi;omega) (λj s hj hi=>by
  unfold cC
  rw[fF (B:=B) (by omega) (by omega),bE]
  by_cases h:In B (j:Int)
  · simp only[h,decide_true,BEq.rfl,cond_true]
    exact⟨_,rfl,by omega,_,h⟩
  · have:(true==decide (In B (j:Int)))=false:=by simp[h]
    simp only[this,cond_false]
    refine⟨_,rfl,λv hv hi'=>?_⟩
    by_cases e:v=(j:Int)
    · subst e;exact h hi'
    · exact hi v (by omega) hi')
 match o,h2 with
 | .inl r,⟨h0,hv⟩=>
  rw[h1,bE]
  exact⟨_,rfl,λ_=>hv,λ_=>decide_eq_true h0⟩
 | .inr _,h2=>
  have h2:=h2.resolve_right id
  rw[h1,bE,bJ]
  refine⟨_,rfl,λh=>absurd h (by decide),λ⟨v,hv⟩=>absurd hv (h2 v (by have:=cq hv;omega))⟩
section
variable {x:solver}{n:Nat}(wf:WfI x n) (hp:PriOk x.game.Prio)
include wf hp
theorem yu {B:List Bool}(hB:B.length=n){w:Int}(hw:In B w):∃d:Int,n6 x.game (cG B B.length)=some d/\0<=d/\(∀v,In B v->priL x.game.Prio v<=d)/\∃v,In B v/\priL x.game.Prio v=d:=by
 have hlp:=wf.lp
 obtain⟨s,h1,h2,h3⟩:=bX (f:=jI x.game (cG B B.length)) (λj (s:Int)=>(∀v∈(cG B B.length).take j,priL x.game.Prio v<=s)/\((s= -1/\j=0)\/(0<=s/\∃v,In B v/\priL x.game.Prio v=s))) (cG B B.length).length (s:=(-1:Int)) ⟨λv hv=>by simp at hv,.inl ⟨rfl,rfl⟩⟩ (λj s hj ⟨q2,q3⟩=>by
  have hu:(cG B B.length)[j]? =some (cG B B.length)[j]:=gs hj
  generalize(cG B B.length)[j]=u at hu
  have hi:=cD.1 (yB hu)
  obtain⟨u0,u1⟩:=jp hB hi
  have hq:=nT (P:=x.game.Prio) (v:=u) (by omega) (by omega)
  obtain⟨d0,d1⟩:=hp _ _ hq
  unfold jI
  rw[bH,hu,bE,hq,bE,gN hu]
  refine⟨_,rfl,λv hv=>?_,.inr ?_⟩
  · rcases yT.1 hv with hv | hv
    · have:=q2 v hv
      split <;> omega
    · rw[yM]at hv
      subst hv
      split <;> omega
  · by_cases hlt:s<priL x.game.Prio u
    · rw[if_pos hlt];exact⟨d0,u,hi,rfl⟩
    · rw[if_neg hlt]
      rcases q3 with ⟨e,_⟩ | h
      · omega
      · exact h)
 unfold n6
 rw[h1,bE,bJ]
 rw[List.take_length]at h2
 have hm:=cD.2 hw
 rcases h3 with ⟨_,e⟩ | ⟨h0,h4⟩
 · rw[List.length_eq_zero_iff]at e
   rw[e]at hm
   cases hm
 · exact⟨s,rfl,h0,λv hv=>h2 v (cD.2 hv),h4⟩
theorem yq:∀(k:Nat) (B:List Bool) (f:Nat),B.length=n->Par.NoDead (gI x.game) (In B)->cnt B<=k->k<f->∃R q,dk f x B=some (R,b2i q)/\R.length=n/\Par.Sol (gI x.game) (In B) q (In R):=by
 have hn:=wf.n256
 intro k
 induction k with
 | zero=>
  intro B f hB hN hk hf
  obtain⟨f,rfl⟩:∃g,f=g+1:=⟨f-1,by omega⟩
  show ∃R q,dx (dk f) x B=some (R,b2i q)/\_
  unfold dx
  have h0:cnt B=0:=by omega
  have hno:=qd h0
  rw[kO (by omega),bE]
  have e:((cG B B.length).length:Int)=0:=by
   unfold cnt at h0;omega
  rw[e]
  exact⟨B,false,rfl,hB,Par.Sol.void hno⟩
 | succ k ih=>
  intro B f hB hN hk hf
  obtain⟨f,rfl⟩:∃g,f=g+1:=⟨f-1,by omega⟩
  show ∃R q,dx (dk f) x B=some (R,b2i q)/\_
  unfold dx
  by_cases h0:cnt B=0
  · have hno:=qd h0
    rw[kO (by omega),bE]
    have e:((cG B B.length).length:Int)=0:=by
     unfold cnt at h0;omega
    rw[e]
    exact⟨B,false,rfl,hB,Par.Sol.void hno⟩
  · have hw:∃w,In B w:=by
     apply Classical.byContradiction
     intro hc
     apply h0
     unfold cnt
     rw[List.length_eq_zero_iff]
     cases hm:cG B B.length with
     | nil=>rfl
     | cons v vs=>exact absurd ⟨v,cD.1 (by rw[hm];exact List.mem_cons_self ..)⟩ hc
    obtain⟨w,hw⟩:=hw
    obtain⟨d,t1,hd0,t3,wt,hwt,hwd⟩:=yu wf hp hB hw
    have hne:((((cG B B.length).length:Int))==0)=false:=by
     unfold cnt at h0
     have:((cG B B.length).length:Int)≠0:=by omega
     simpa using this
    have hwho:=sf hd0
    generalize hpe:Par.oddP d=p at hwho
    rw[kO (by omega),bE,hne,cond_false,t1,bE,appL (by rw[yQ];omega) rfl,bE,List.nil_append]
    obtain⟨o,w1,w2⟩:=cB (f:=eS (dk f) x B d) (λj (now:List Bool)=>now.length=n/\Par.Red (gI x.game) (In B) (In now) p/\Par.NoDead (gI x.game) (In now)/\(cnt now<cnt B\/∀v,In B v->In now v)/\cnt now+j<=cnt B)
     (λr=>∃R,r=(R,b2i p)/\R.length=n/\Par.Sol (gI x.game) (In B) p (In R)) (λ_=>False) (cnt B) (λj now ⟨q1,q2,q3,q4,q5⟩=>by
     unfold eS
     rw[hB,di (by omega) rfl,bE]
     obtain⟨goal,g1,g2,g3⟩:=fillB (f:=eT x d now) (λv=>In now v/\priL x.game.Prio v=d) n (s0:=sh n false) (by simp) (λj s hj hs=>by
      unfold eT
      rw[fF (B:=now) (by omega) (by omega),bE,nT (P:=x.game.Prio) (by omega) (by rw[wf.lp];omega),bE,andE,bE]
      congr 1
      funext _
      congr 2
      rw[yR];simp) (λv hv=>jp q1 hv.1)
     rw[List.length_replicate,g1,bE,bJ,hwho]
     obtain⟨A,a1,a2,a3⟩:=vX wf q1 g2 p q3 λv hv=>((g3 v).1 hv).1
     have hA:Par.IsAttr (gI x.game) (In now) p (λv=>(gI x.game).pri v=d) (In A):=a3.congrS λv hv=>by rw[g3];exact⟨λh=>h.2,λh=>⟨hv,h⟩⟩
     obtain⟨rest,r1,r2,r3⟩:=lB q1 a2 hn
     have hX1:∀v,Par.Mn (In now) (In A) v↔In rest v:=λv=>(r3 v).symm
     have e1:Par.Mn (In now) (In A)=In rest:=funext λv=>propext (hX1 v)
     have hN1:Par.NoDead (gI x.game) (In rest):=e1 ▸ q3.less hA
     have hcn:cnt rest<=cnt now:=wG λv hv=>((r3 v).1 hv).1
     have hc1:cnt rest<cnt B:=by
      rcases q4 with h | h
      · omega
      · have hwn:=h wt hwt
        have:=rB (λv hv=>((r3 v).1 hv).1) hwn λh=>((r3 wt).1 h).2 (a3.base wt hwn ((g3 wt).2 ⟨hwn,hwd⟩))
        omega
     obtain⟨W,q,l1,l2,l3⟩:=ih rest f r2 hN1 (by omega) (by omega)
     simp only[a1,bE,r1,l1,mW]
     have hW:=l3.asP p
     -- what is lost
     have hlost:∃L,(bif q==p then bC (eU rest W) λx80=>some (x80:List Bool) else some W)=some L/\L.length=n/\∀v,In L v↔Par.Mn (In rest) (λv=>In rest v/\(In W v↔p=q)) v:=by
      by_cases e:q=p
      · subst e
        obtain⟨L,m1,m2,m3⟩:=lB r2 l2 hn
        refine⟨L,by rw[m1,show(q==q)=true from by simp];rfl,m2,λv=>?_⟩
        rw[m3]
        unfold Par.Mn
        by_cases h1:In rest v <;> by_cases h2:In W v <;> simp[h1,h2]
      · have hb:(q==p)=false:=by simpa using e
        refine⟨W,by rw[hb];rfl,l2,λv=>?_⟩
        have:=l3.sub v
        unfold Par.Mn
        have e':¬p=q:=λh=>e h.symm
        by_cases h1:In rest v <;> by_cases h2:In W v <;> simp[h1,h2,e']at this ⊢
     obtain⟨L,m1,m2,m3⟩:=hlost
     have eL:Par.Mn (In rest) (λv=>In rest v/\(In W v↔p=q))=In L:=funext λv=>propext (m3 v).symm
     obtain⟨b,c1,c2⟩:=pE (B:=L)
     simp only[m1,bE,c1]
     cases hb:b with
     | false=>
      simp only[Bool.not_false,cond_true]
      have hno:∀v,¬In L v:=λv hv=>by
       have:=c2.2 ⟨v,hv⟩
       rw[hb]at this;cases this
      refine⟨_,rfl,now,rfl,q1,q2.sol (Par.Sol.top q3 (λv hv=>t3 v (q2.sub v hv)) hpe hA (e1.symm ▸ hW) λv hv=>?_)⟩
      have hv':=(hX1 v).1 hv
      apply Classical.byContradiction
      intro hc
      exact hno v ((m3 v).2 ⟨hv',λh=>hc ⟨hv,h.2⟩⟩)
     | true=>
      simp only[yJ,cond_false]
      obtain⟨w2,hw2⟩:=c2.1 hb
      have hLn:∀v,In L v->In now v:=λv hv=>((r3 v).1 ((m3 v).1 hv).1).1
      obtain⟨A2,b1,b2,b3⟩:=vX wf q1 m2 (!p) q3 hLn
      obtain⟨now2,n1,n2,n3⟩:=lB q1 b2 hn
      have e2:Par.Mn (In now) (In A2)=In now2:=funext λv=>propext (n3 v).symm
      have hN2:Par.NoDead (gI x.game) (In now2):=e2 ▸ q3.less b3
      have hc2:cnt now2<cnt now:=rB (λv hv=>((n3 v).1 hv).1) (hLn w2 hw2) λh=>((n3 w2).1 h).2 (b3.base w2 (hLn w2 hw2) hw2)
      have hRed:Par.Red (gI x.game) (In B) (In now2) p:=by
       have:=q2.step hA (e1.symm ▸ hW) (by rw[e1,eL];exact b3)
       rwa [e2]at this
      obtain⟨b',c1',c2'⟩:=pE (B:=now2)
      rw[mU]
      simp only[b1,bE,n1,c1']
      cases hb':b' with
      | false=>
       simp only[Bool.not_false,cond_true]
       refine⟨_,rfl,now2,rfl,n2,hRed.sol (Par.Sol.void λv hv=>?_)⟩
       have:=c2'.2 ⟨v,hv⟩
       rw[hb']at this;cases this
      | true=>
       simp only[yJ,cond_false]
       exact⟨_,rfl,by omega,n2,hRed,hN2,.inl (by omega),by omega⟩) (2 ^ 64) 0 B (by have:=pG B;omega) ⟨hB,Par.Red.refl,hN,.inr λ_ h=>h,by omega⟩ (by omega)
    match o,w2 with
    | .inl r,⟨R,k1,k2,k3⟩=>
     subst k1
     rw[w1,bE]
     exact⟨R,p,rfl,k2,k3⟩
end
end Go.Proofs.YtleekpaohfpooaaGreat
set_option linter.unusedVariables false
set_option linter.unusedSimpArgs false
namespace Go.Proofs.YtleekpaohfpooaaGreat
open Go Go.Wk Go.Proofs
structure GOk (g:Parity) (n:Nat):Prop where
 n256:n<=256
 lo:g.Arena.Owner.length=n
 lp:g.Prio.length=n
 ln:g.Arena.Next.length=n
 ow:∀v o,idx g.Arena.Owner v=some o->o=0\/o=1
 row:∀v r,idx g.Arena.Next v=some r->r.length<=16/\r.Nodup/\∀u∈r,0<=u/\u<n
 pri:PriOk g.Prio
theorem uD {α:Type}{xs:List α}{v:Int}{x:α}(h:idx xs v=some x):x∈xs:=by
 obtain⟨h0,_⟩:=cq h
 rw[cE h0]at h
 exact yB h
theorem GOk.of {g:Parity}(h:cA g=true):GOk g g.Prio.length:=by
 obtain⟨h1,h2,h3,h4,h5⟩:=dp h
 obtain⟨hO,hP⟩:=pM h
 refine⟨by omega,by omega,rfl,by omega,λv o ho=>?_,λv r hr=>?_,λv q hq=>?_⟩
 · have:=cQ.1 (hO o (uD ho))
   omega
 · obtain⟨v0,_⟩:=cq hr
   obtain⟨i,hi⟩:=ew v0
   subst hi
   rw[bH]at hr
   obtain⟨r1,r2,r3⟩:=h5 i r hr
   obtain⟨r4,r5⟩:=fd.1 r3
   exact⟨r2,iG r5,λu hu=>by have:=r4 u hu;omega⟩
 · have:=cQ.1 (hP q (uD hq))
   omega
section
variable {g:Parity}{n:Nat}(h:GOk g n)
include h
theorem tu:∃P,lb g.Arena=some P/\PrevT g.Arena.Next n n P:=by
 have hn:=h.n256
 unfold lb
 rw[h.lo,di (by omega) rfl,bE,h.ln]
 obtain⟨s,h1,h2⟩:=bX (f:=iq g.Arena) (λj (s:List (List Int))=>PrevT g.Arena.Next n j s) n (s:=sh n []) PrevT.zero (λj s hj hs=>by
  have hr:g.Arena.Next[j]? =some (g.Arena.Next[j]'(by rw[h.ln];exact hj)):=gs (by rw[h.ln];exact hj)
  generalize g.Arena.Next[j]'(by rw[h.ln];exact hj)=row at hr
  obtain⟨r1,r2,r3⟩:=h.row (j:Int) row (by rw[bH];exact hr)
  unfold iq
  rw[bH,hr,bE]
  obtain⟨t,k1,k2⟩:=bX (f:=ig (j:Int) row) (λi (t:List (List Int))=>PrevM g.Arena.Next n j row i t) row.length (s:=s) (hs.first row) (λi t hi ht=>by
   have hu:row[i]? =some row[i]:=gs hi
   generalize row[i]=u at hu
   obtain⟨u0,u1⟩:=r3 u (yB hu)
   obtain⟨old,m1,m2,t',m3,m4⟩:=ht.step hu r2 u0 u1
   unfold ig
   rw[bH,hu,bE,m1,bE,app1 (by omega) rfl,bE,bE,m3,bE]
   exact⟨_,rfl,m4⟩)
  rw[k1,bE,bJ]
  exact⟨_,rfl,k2.last hr⟩)
 rw[h1,bE,bJ]
 exact⟨s,rfl,h2⟩
theorem rX:∃P,nf g=some ⟨g.Arena.Owner,g.Prio,g.Arena.Next,P,sh n (-1)⟩/\PrevT g.Arena.Next n n P:=by
 have hn:=h.n256
 unfold nf
 rw[h.lp,di (by omega) rfl,bE,di (by omega) rfl,bE]
 obtain⟨s,h1,h2,h3,h4⟩:=bX (f:=kZ g) (λj (s:List (List Int)×List Int)=>PrevT g.Arena.Next n j s.1/\s.2.length=n/\∀i:Nat,i<j->idx s.2 (i:Int)=some (-1)) n (s:=(sh n [],sh n 0)) ⟨PrevT.zero,by simp,λi hi=>absurd hi (Nat.not_lt_zero i)⟩ (λj s hj ⟨hs,q1,q2⟩=>by
  obtain⟨s,k⟩:=s
  dsimp only at hs q1 q2
  have hr:g.Arena.Next[j]? =some (g.Arena.Next[j]'(by rw[h.ln];exact hj)):=gs (by rw[h.ln];exact hj)
  generalize g.Arena.Next[j]'(by rw[h.ln];exact hj)=row at hr
  obtain⟨r1,r2,r3⟩:=h.row (j:Int) row (by rw[bH];exact hr)
  obtain⟨old,ho⟩:=cj (xs:=k) (i:=(j:Int)) (by omega) (by omega)
  obtain⟨k',hk,hkl⟩:=cF (xs:=k) (i:=(j:Int)) (-1) (by omega) (by omega)
  unfold kZ
  dsimp only
  rw[ho,bE,hk,bE]
  obtain⟨o,w1,w2⟩:=cB (f:=kP g (j:Int)) (λi (t:Int×List (List Int))=>t.1=(i:Int)/\i<=row.length/\PrevM g.Arena.Next n j row i t.2) (λ_=>False) (λt=>PrevM g.Arena.Next n j row row.length t.2) row.length (λi t ⟨a1,a2,a3⟩=>by
   obtain⟨i',t⟩:=t
   dsimp only at a1 a3
   subst a1
   unfold kP
   dsimp only
   rw[bH,hr,bE]
   by_cases hlt:i<row.length
   · have hlt':(i:Int)<(row.length:Int):=by omega
     have hu:row[i]? =some row[i]:=gs hlt
     generalize row[i]=u at hu
     obtain⟨u0,u1⟩:=r3 u (yB hu)
     obtain⟨old,m1,m2,t',m3,m4⟩:=a3.step hu r2 u0 u1
     have hw:IntKind.i64.wrap ((i:Int)+1)=((i+1:Nat):Int):=by rw[wr' (by omega) (by omega)];omega
     simp only[hlt',decide_true,cond_true,bE,bH,hu,m1,app1 (show old.length<=10000000000 by omega) (show Nat.ble 8 1024=true from rfl),m3,hw]
     exact⟨_,rfl,hlt,rfl,by omega,m4⟩
   · have hlt':¬(i:Int)<(row.length:Int):=by omega
     simp only[hlt',decide_false,cond_false]
     have e:i=row.length:=by omega
     subst e
     exact⟨_,rfl,a3⟩) (2 ^ 64) 0 (0,s) (by omega) ⟨rfl,by omega,hs.first row⟩ (by omega)
  match o,w2 with
  | .inr t,w2=>
   rw[w1,bE,bJ]
   refine⟨_,rfl,w2.last hr,by dsimp only;omega,λi hi=>?_⟩
   dsimp only
   rw[cS hk]
   by_cases e:(i:Int)=(j:Int)
   · rw[if_pos e]
   · rw[if_neg e];exact q2 i (by omega))
 rw[h1,bE,bJ]
 have e:s.2=sh n (-1):=by
  apply List.ext_getElem?
  intro i
  rw[yF]
  by_cases hi:i<n
  · rw[if_pos hi,← bH];exact h4 i hi
  · rw[if_neg hi];exact yS (by omega)
 refine⟨s.1,?_,h2⟩
 rw[e]
theorem GOk.wfI {P:List (List Int)}(hP:PrevT g.Arena.Next n n P):WfI ⟨g,P⟩ n:=by
 refine⟨h.n256,h.lo,h.lp,h.ln,hP.1,h.ow,h.row,λu Q hQ=>?_⟩
 obtain⟨u0,u1⟩:=cq hQ
 have u1:u<(P.length:Int):=u1
 have hQ:idx P u=some Q:=hQ
 rw[hP.2 u u0 (by have:=hP.1;omega)]at hQ
 cases hQ
 have:=oC g.Arena.Next u n
 have:=h.n256
 exact⟨oJ _ _ _,by omega,λv=>qP h.ln⟩
theorem GOk.wfS {P:List (List Int)}(hP:PrevT g.Arena.Next n n P){k:List Int}(hk:k.length=n):WfS ⟨g.Arena.Owner,g.Prio,g.Arena.Next,P,k⟩ n:=by
 refine⟨h.n256,h.lo,h.lp,h.ln,hk,hP.1,h.ow,h.row,λu Q hQ=>?_⟩
 obtain⟨u0,u1⟩:=cq hQ
 have u1:u<(P.length:Int):=u1
 have hQ:idx P u=some Q:=hQ
 rw[hP.2 u u0 (by have:=hP.1;omega)]at hQ
 cases hQ
 have:=oC g.Arena.Next u n
 have:=h.n256
 exact⟨oJ _ _ _,by omega,λv=>qP h.ln⟩
theorem ul (P:List (List Int)):gS ⟨g.Arena.Owner,g.Prio,g.Arena.Next,P,sh n (-1)⟩=gI g:=by
 unfold gS gI
 congr 1
 funext v
 unfold rowS cv
 dsimp only
 cases hr:idx g.Arena.Next v with
 | none=>rfl
 | some r=>
  obtain⟨v0,v1⟩:=cq hr
  have:idx (sh n (-1:Int)) v=some (-1):=by
   rw[cE v0,yF,if_pos (by have:=h.ln;omega)]
  rw[this]
  show r.filter (okE (-1))=r
  rw[List.filter_eq_self]
  intro a _
  rfl
theorem wd:rq (g.Prio.length:Int)=some (sh n true):=by
 have hn:=h.n256
 unfold rq
 have hr:rng (n:Int)=some ()\/True:= .inr trivial
 rw[h.lp,di (by omega) rfl,bE,show Int.toNat ((n:Int)-0)=n from by omega]
 obtain⟨s,h1,h2,h3⟩:=fill (f:=nj) (λ_=>true) n (s0:=sh n false) (by simp) (λj s hj hs=>by
  unfold nj
  rfl)
 rw[h1]
 have e:s=sh n true:=by
  apply List.ext_getElem?
  intro i
  rw[yF]
  by_cases hi:i<n
  · rw[if_pos hi,← bH];exact h3 i hi
  · rw[if_neg hi];exact yS (by omega)
 subst e
 have:rng (n:Int)=some ():=by
  unfold rng
  first
   | rfl
   | rw[if_pos (by omega)]
 rw[this];rfl
omit h in
theorem tz (v:Int):In (sh n true) v↔0<=v/\v<n:=by
 constructor
 · intro h
   have:=cq h
   simpa using this
 · rintro⟨h0,h1⟩
   unfold In
   rw[cE h0,yF,if_pos (by omega)]
theorem vE {L:List Int}(hL:∀v∈L,0<=v/\v<n):∃R,lY g.Arena L=some R/\R.length=n/\∀v,In R v↔v∈L:=by
 have hn:=h.n256
 unfold lY
 rw[h.lo,di (by omega) rfl,bE]
 obtain⟨s,h1,h2,h3⟩:=bX (f:=jm L) (λj (s:List Bool)=>s.length=n/\∀v:Int,0<=v->v<n->idx s v=some (decide (v∈L.take j))) L.length (s:=sh n false) ⟨by simp,λv v0 v1=>by
  rw[cE v0,yF,if_pos (by omega)];simp⟩ (λj s hj ⟨q1,q2⟩=>by
  have hu:L[j]? =some L[j]:=gs hj
  generalize L[j]=u at hu
  obtain⟨u0,u1⟩:=hL u (yB hu)
  obtain⟨s',hs,hl⟩:=cF (xs:=s) (i:=u) true u0 (by omega)
  unfold jm
  rw[bH,hu,bE,q2 u u0 u1,bE,hs,bE]
  refine⟨_,rfl,by omega,λv v0 v1=>?_⟩
  rw[cS hs,gN hu]
  by_cases e:v=u
  · rw[if_pos e];simp[e]
  · rw[if_neg e,q2 v v0 v1];simp[e])
 rw[h1,bE,bJ]
 refine⟨s,rfl,h2,λv=>?_⟩
 rw[List.take_length]at h3
 constructor
 · intro hi
   have hi':=jp h2 hi
   unfold In at hi
   rw[h3 v hi'.1 hi'.2]at hi
   simpa using hi
 · intro hm
   obtain⟨v0,v1⟩:=hL v hm
   unfold In
   rw[h3 v v0 v1]
   simpa using hm
theorem td {L:List Int}(hL:∀v∈L,0<=v/\v<n) (hN:Par.NoDead (gI g) (λv=>v∈L)):∃E O W,mL g L=some (E,O)/\Par.Sol (gI g) (λv=>v∈L) false W/\(∀v,v∈E↔W v)/\(∀v,v∈O↔v∈L/\¬W v)/\E.length<=n/\O.length<=n:=by
 have hn:=h.n256
 obtain⟨P,p1,p2⟩:=tu h
 obtain⟨M,m1,m2,m3⟩:=vE h hL
 have eM:In M=λv=>v∈L:=funext λv=>propext (m3 v)
 obtain⟨R,q,r1,r2,r3⟩:=yq (h.wfI p2) h.pri n M (2 ^ 64) m2 (by rw[eM];exact hN) (by have:=pG M;omega) (by omega)
 obtain⟨X,x1,x2,x3⟩:=lB m2 r2 hn
 have lR:=lz R R.length
 have lX:=lz X X.length
 have r3:Par.Sol (gI g) (In M) q (In R):=r3
 unfold mL
 rw[p1,bE,m1,bE,r1,bE]
 dsimp only
 rw[nP,kO (by omega),x1]
 simp only[bE]
 rw[kO (by omega)]
 simp only[bE]
 have hsol:=r3.asP false
 rw[eM]at hsol
 have hsub:=r3.sub
 cases q with
 | false=>
  simp only[Bool.not_false,cond_true]
  refine⟨_,_,_,rfl,hsol,λv=>?_,λv=>?_,by omega,by omega⟩
  · rw[cD]
    exact⟨λhv=>⟨(m3 v).1 (hsub v hv),λ_=>rfl,λ_=>hv⟩,λhv=>hv.2.2 rfl⟩
  · rw[cD,x3,m3]
    exact⟨λhv=>⟨hv.1,λhw=>hv.2 (hw.2.2 rfl)⟩,λhv=>⟨hv.1,λhr=>hv.2 ⟨hv.1,λ_=>rfl,λ_=>hr⟩⟩⟩
 | true=>
  simp only[yJ,cond_false]
  refine⟨_,_,_,rfl,hsol,λv=>?_,λv=>?_,by omega,by omega⟩
  · rw[cD,x3,m3]
    exact⟨λhv=>⟨hv.1,λhr=>absurd hr hv.2,λhf=>absurd hf (by decide)⟩,λhv=>⟨hv.1,λhr=>absurd (hv.2.1 hr) (by decide)⟩⟩
  · rw[cD]
    constructor
    · intro hr
      exact⟨(m3 v).1 (hsub v hr),λhw=>absurd (hw.2.1 hr) (by decide)⟩
    · rintro⟨hl,hw⟩
      apply Classical.byContradiction
      intro hr
      exact hw ⟨hl,λh'=>absurd h' hr,λhf=>absurd hf (by decide)⟩
end
end Go.Proofs.YtleekpaohfpooaaGreat
set_option linter.unusedVariables false
set_option linter.unusedSimpArgs false
namespace Go.Proofs.YtleekpaohfpooaaGreat
open Go Go.Wk Go.Proofs
open Classical
theorem vN {a:Arena}(h:a.Owner.length<=256):nO a=some ((List.range a.Owner.length).map Int.ofNat):=by
 unfold nO mf pa
 rw[bE,show decide ((a.Owner.length:Int)<0)=false from by simp]
 simp only[cond_false,bE]
 rw[show decide ((256:Int)<(a.Owner.length:Int))=false from by simp;omega,cond_false,show Int.toNat ((a.Owner.length:Int)-0)=a.Owner.length from by omega]
 obtain⟨s,h1,h2⟩:=bX (f:=kd) (λj (s:List Int)=>s=(List.range j).map Int.ofNat) a.Owner.length (s:=[]) rfl (λj s hj hs=>by
  subst hs
  unfold kd
  rw[app1 (by rw[yW,List.length_range];omega) rfl,bE]
  exact⟨_,rfl,by rw[List.range_succ,List.map_append];rfl⟩)
 rw[h1]
 subst h2
 have:rng (a.Owner.length:Int)=some ():=by
  unfold rng
  first
   | rfl
   | rw[if_pos (by omega)]
 rw[this];rfl
noncomputable def wonL (n:Nat) (W:Int->Prop):List Int:=(List.range n).map λ(v:Nat)=>b2i (decide (¬W (v:Int)))
theorem nU (n:Nat) (W:Int->Prop):(wonL n W).length=n:=by unfold wonL;rw[yW,List.length_range]
theorem sA {n:Nat}{W:Int->Prop}{v:Nat}(h:v<n):(wonL n W)[v]? =some (b2i (decide (¬W (v:Int)))):=by
 unfold wonL
 rw[List.getElem?_map,List.getElem?_range h];rfl
theorem uw {n:Nat}{W:Int->Prop}{l:List Int}(hl:l.length=n) (h:∀v:Nat,v<n->l[v]? =some (b2i (decide (¬W (v:Int))))):l=wonL n W:=by
 apply List.ext_getElem?
 intro i
 by_cases hi:i<n
 · rw[h i hi,sA hi]
 · rw[yS (by omega),yS (by rw[nU];omega)]
theorem lE {g:Parity}{n:Nat}(h:GOk g n) (hr:∀v r,idx g.Arena.Next v=some r->r≠[]):Par.NoDead (gI g) (λv=>0<=v/\v<n):=λv ⟨v0,v1⟩=>by
 obtain⟨r,hv⟩:=cj (xs:=g.Arena.Next) v0 (by have:=h.ln;omega)
 cases r with
 | nil=>exact absurd rfl (hr v [] hv)
 | cons u us=>
  refine⟨u,?_,(h.row v _ hv).2.2 u (List.mem_cons_self ..)⟩
  show u∈cv g.Arena v
  rw[dA hv];exact List.mem_cons_self ..
theorem vx {g:Parity}{n:Nat}(h:GOk g n) (hr:∀v r,idx g.Arena.Next v=some r->r≠[]):∃W,ir g=some (wonL n W)/\er g=some (wonL n W)/\Par.Sol (gI g) (λv=>0<=v/\v<n) false W:=by
 have hn:=h.n256
 have hN:=lE h hr
 -- the program
 have hmem:∀v:Int,v∈(List.range n).map Int.ofNat↔0<=v/\v<n:=λv=>by
  rw[List.mem_map]
  constructor
  · rintro⟨w,hw,rfl⟩
    rw[List.mem_range]at hw
    exact⟨Int.natCast_nonneg w,by show(w:Int)<n;omega⟩
  · rintro⟨v0,v1⟩
    obtain⟨w,hw⟩:=ew v0
    subst hw
    exact⟨w,List.mem_range.2 (by omega),rfl⟩
 have eX:(λv=>v∈(List.range n).map Int.ofNat)=λv:Int=>0<=v/\v<n:=funext λv=>propext (hmem v)
 obtain⟨E,O,W,k1,k2,k3,k4,k5,k6⟩:=td h (L:=(List.range n).map Int.ofNat) (λv hv=>(hmem v).1 hv) (by rw[eX];exact hN)
 rw[eX]at k2
 refine⟨W,?_,?_,k2⟩
 · -- the reference
   obtain⟨P,p1,p2⟩:=rX h
   have hg:=ul h P
   have hA:In (sh n true)=λv:Int=>0<=v/\v<n:=funext λv=>propext (tz v)
   obtain⟨R,r1,r2,r3⟩:=vU (h.wfS p2 (k:=sh n (-1)) (by simp)) h.pri n (sh n true) (2 ^ 64) (by simp) (by rw[hA,hg];exact hN) (by have:=pG (sh n true);simp at this;exact this) (by omega)
   rw[hg,hA]at r3
   have huq:=r3.uniq k2
   unfold ir
   rw[p1,bE,wd h,bE,r1,bE,r2]
   obtain⟨s,h1,h2,h3⟩:=bX (f:=kb R) (λj (s:List Int)=>s.length=j/\∀i:Nat,i<j->s[i]? =some (b2i (decide (¬W (i:Int))))) n (s:=[]) ⟨rfl,λi hi=>absurd hi (Nat.not_lt_zero i)⟩ (λj s hj ⟨q1,q2⟩=>by
    unfold kb
    rw[fF (B:=R) (by omega) (by omega),bE]
    have hf:fL (decide (In R (j:Int)))=some (b2i (decide (In R (j:Int)))):=by
     unfold fL
     cases decide (In R (j:Int)) <;> rfl
    rw[hf,bE,mU,app1 (by omega) rfl,bE]
    refine⟨_,rfl,by rw[yK];simp;omega,λi hi=>?_⟩
    by_cases e:i<j
    · rw[List.getElem?_append_left (by omega)];exact q2 i e
    · have:i=j:=by omega
      subst this
      rw[List.getElem?_append_right (by omega),q1,Nat.sub_self]
      show some _=some _
      congr 2
      rw[← decide_not]
      exact decide_eq_decide.2 (not_congr (huq _)))
   rw[h1,bE,bJ,uw h2 h3]
 · unfold er
   rw[h.lp,di (by omega) rfl,bE,vN (by have:=h.lo;omega),h.lo,bE,k1,bE]
   obtain⟨s,h1,h2,h3⟩:=bX (f:=g6 (E,O)) (λj (s:List Int)=>s.length=n/\∀v:Int,0<=v->v<n->idx s v=some (b2i (decide (v∈O.take j)))) O.length (s:=sh n 0) ⟨by simp,λv v0 v1=>by
    rw[cE v0,yF,if_pos (by omega)];simp[b2i]⟩ (λj s hj ⟨q1,q2⟩=>by
    have hu:O[j]? =some O[j]:=gs hj
    generalize O[j]=u at hu
    obtain⟨u0,u1⟩:=(hmem u).1 ((k4 u).1 (yB hu)).1
    obtain⟨s',hs,hl⟩:=cF (xs:=s) (i:=u) 1 u0 (by omega)
    unfold g6
    dsimp only
    rw[bH,hu,bE,q2 u u0 u1,bE,hs,bE]
    refine⟨_,rfl,by omega,λv v0 v1=>?_⟩
    rw[cS hs,gN hu]
    by_cases e:v=u
    · rw[if_pos e];simp[e,b2i]
    · rw[if_neg e,q2 v v0 v1];simp[e])
   dsimp only
   rw[h1,bE,bJ]
   congr 1
   rw[List.take_length]at h3
   refine uw h2 λv hv=>?_
   rw[← bH,h3 _ (by omega) (by omega)]
   congr 2
   refine decide_eq_decide.2 ?_
   rw[k4,hmem]
   exact⟨λh=>h.2,λh=>⟨⟨by omega,by omega⟩,h⟩⟩
theorem mN {g:Parity}(hp:cA g=true):∀v r,idx g.Arena.Next v=some r->r≠[]:=λv r hr e=>by
 obtain⟨h1,h2,h3,h4,h5⟩:=dp hp
 obtain⟨v0,_⟩:=cq hr
 obtain⟨i,hi⟩:=ew v0
 subst hi
 rw[bH]at hr
 have:=(h5 i r hr).1
 rw[e]at this
 simp at this
end Go.Proofs.YtleekpaohfpooaaGreat
set_option linter.unusedVariables false
set_option linter.unusedSimpArgs false
namespace Go.Proofs.YtleekpaohfpooaaGreat.Par
open Classical
variable {G H:Gm}{X Y C T W W' D:Int->Prop}{p:Bool}{w w':Int->Bool}{k k':Int->Int}
theorem Dom.self (h:Dom G X p D):Dom G D p D:=by
 obtain⟨σ,a1,a2,a3,a4⟩:=h
 exact⟨σ,λv hv=>hv,a2,λv u _ _ _ hu=>hu,a4⟩
theorem Dom.congrG (h:Dom G X p D) (ho:∀v,D v->H.own v=G.own v) (hp:∀v,D v->H.pri v=G.pri v) (hE:∀v u,D v->(H.E v u↔G.E v u)):Dom H X p D:=by
 obtain⟨σ,a1,a2,a3,a4⟩:=h
 refine⟨σ,a1,λv hv hq=>?_,λv u hv hq he hx=>?_,λπ hπ=>?_⟩
 · rw[ho v hv]at hq
   have:=a2 v hv hq
   exact⟨(hE v _ hv).2 this.1,this.2⟩
 · rw[ho v hv]at hq
   exact a3 v u hv hq ((hE v u hv).1 he) hx
 · have hp':Play G p D σ π:=λn=>by
    obtain⟨b1,b2,b3⟩:=hπ n
    exact⟨b1,(hE _ _ b1).1 b2,λhq=>b3 (by rw[ho _ b1];exact hq)⟩
   obtain⟨d,c1,c2,N,c3⟩:=a4 π hp'
   have e:∀n,H.pri (π n)=G.pri (π n):=λn=>hp _ (hπ n).1
   exact⟨d,c1,λM=>by obtain⟨n,k1,k2⟩:=c2 M;exact⟨n,k1,by rw[e];exact k2⟩,N,λn hn=>by rw[e];exact c3 n hn⟩
theorem Sol.congrG (h:Sol G X p W) (ho:∀v,X v->H.own v=G.own v) (hp:∀v,X v->H.pri v=G.pri v) (hE:∀v u,X v->(H.E v u↔G.E v u)):Sol H X p W:=
 ⟨h.sub,h.mine.congrG (λv hv=>ho v (h.sub v hv)) (λv hv=>hp v (h.sub v hv)) (λv u hv=>hE v u (h.sub v hv)),
  h.yours.congrG (λv hv=>ho v hv.1) (λv hv=>hp v hv.1) (λv u hv=>hE v u hv.1)⟩
theorem hold_iff {R:Int->Prop}{q:Bool}(hs:Sol G Y false R):(∀x,Y x->(R x↔q=false))↔Dom G Y q Y:=by
 constructor
 · intro h
   cases q with
   | false=>exact hs.mine.congr λv=>⟨hs.sub v,λhv=>(h v hv).2 rfl⟩
   | true=>exact hs.yours.congr λv=>⟨λhv=>hv.1,λhv=>⟨hv,λhr=>absurd ((h v hv).1 hr) (by decide)⟩⟩
 · intro h x hx
   have:=hs.uniq ((Sol.all h).asP false) x
   rw[this]
   exact⟨λh=>(h.2.1 hx).symm,λe=>⟨hx,λ_=>e.symm,λ_=>hx⟩⟩
def pickG (G:Gm) (k:Int->Int):Gm:=⟨G.own,G.pri,λv u=>G.E v u/\(k v<0\/k v=u)⟩
def Rg (X:Int->Prop) (w:Int->Bool) (q:Bool):Int->Prop:=λv=>X v/\w v=q
def updF (k:Int->Int) (v u:Int):Int->Int:=λx=>if x=v then u else k x
structure PInv (G:Gm) (X:Int->Prop) (w:Int->Bool) (k:Int->Int):Prop where
 pick:∀v,0<=k v->X v/\G.own v=w v/\G.E v (k v)/\X (k v)/\w (k v)=w v
 dom:∀q,Dom (pickG G k) (Rg X w q) q (Rg X w q)
 yours:∀v u,X v->¬G.own v=w v->G.E v u->X u->w u=w v
theorem Sol.rg (h:Sol G X false W) (hw:∀v,X v->(w v=false↔W v)) (q:Bool):Dom G X q (Rg X w q):=by
 cases q with
 | false=>exact h.mine.congr λv=>⟨λhv=>⟨h.sub v hv,(hw v (h.sub v hv)).2 hv⟩,λhv=>(hw v hv.1).1 hv.2⟩
 | true=>exact h.yours.congr λv=>⟨λhv=>⟨hv.1,by
  cases e:w v with
  | true=>rfl
  | false=>exact absurd ((hw v hv.1).1 e) hv.2⟩,λhv=>⟨hv.1,λh'=>by
  have:=(hw v hv.1).2 h'
  rw[hv.2]at this
  cases this⟩⟩
theorem PInv.start (h:Sol G X false W) (hw:∀v,X v->(w v=false↔W v)) (hk:∀v,k v<0):PInv G X w k:=by
 refine⟨λv hv=>absurd (hk v) (by omega),λq=>((h.rg hw q).self).congrG (λ_ _=>rfl) (λ_ _=>rfl) λv u _=>⟨λh=>h.1,λh=>⟨h,.inl (hk v)⟩⟩,λv u hv ho he hu=>?_⟩
 obtain⟨σ,a1,a2,a3,a4⟩:=h.rg hw (w v)
 exact(a3 v u ⟨hv,rfl⟩ ho he hu).2
theorem PInv.ex (hI:PInv G X w k){v:Int}(hv:X v) (ho:G.own v=w v) (hk:k v<0):∃u,G.E v u/\X u/\w u=w v/\Dom (pickG G (updF k v u)) (Rg X w (w v)) (w v) (Rg X w (w v)):=by
 obtain⟨σ,a1,a2,a3,a4⟩:=hI.dom (w v)
 obtain⟨⟨e1,_⟩,e2,e3⟩:=a2 v ⟨hv,rfl⟩ ho
 refine⟨σ v,e1,e2,e3,σ,a1,λx hx hq=>?_,λx y hx hq he hy=>hy,λπ hπ=>a4 π λn=>?_⟩
 · obtain⟨⟨b1,b2⟩,b3⟩:=a2 x hx hq
   refine⟨⟨b1,?_⟩,b3⟩
   unfold updF
   by_cases e:x=v
   · rw[if_pos e,e];exact .inr rfl
   · rw[if_neg e];exact b2
 · obtain⟨b1,⟨b2,b3⟩,b4⟩:=hπ n
   refine⟨b1,⟨b2,?_⟩,b4⟩
   unfold updF at b3
   by_cases e:π n=v
   · rw[e];exact .inl hk
   · rwa [if_neg e]at b3
theorem PInv.step (hI:PInv G X w k){v u:Int}(hv:X v) (ho:G.own v=w v) (h1:G.E v u) (h2:X u) (h3:w u=w v) (hd:Dom (pickG G (updF k v u)) (Rg X w (w v)) (w v) (Rg X w (w v))):PInv G X w (updF k v u):=by
 refine⟨λx hx=>?_,λq=>?_,hI.yours⟩
 · by_cases e:x=v
   · subst e
     have:updF k x u x=u:=if_pos rfl
     rw[this];exact⟨hv,ho,h1,h2,h3⟩
   · have:updF k v u x=k x:=if_neg e
     rw[this]at hx ⊢;exact hI.pick x hx
 · by_cases e:q=w v
   · subst e;exact hd
   · refine(hI.dom q).congrG (λ_ _=>rfl) (λ_ _=>rfl) λx y hx=>?_
     have:x≠v:=λe'=>e (by rw[← hx.2,e'])
     have:updF k v u x=k x:=if_neg this
     show _/\_↔_/\_
     rw[this]
theorem PInv.noDead (hI:PInv G X w k) (hN:NoDead G X){v u:Int}(h1:G.E v u) (h2:X u) (h3:w u=w v) (q:Bool):NoDead (pickG G (updF k v u)) (Rg X w q):=λx ⟨hx,hq⟩=>by
 by_cases e:x=v
 · subst e;exact⟨u,⟨h1,.inr (if_pos rfl)⟩,h2,by rw[h3,hq]⟩
 · have e':updF k v u x=k x:=if_neg e
   by_cases ho:G.own x=w x
   · obtain⟨σ,_,a2,_⟩:=hI.dom q
     obtain⟨⟨b1,b2⟩,b3⟩:=a2 x ⟨hx,hq⟩ (by show G.own x=q;rw[ho,hq])
     exact⟨σ x,⟨b1,by rw[e'];exact b2⟩,b3⟩
   · obtain⟨y,c1,c2⟩:=hN x hx
     refine⟨y,⟨c1,.inl ?_⟩,c2,by rw[hI.yours x y hx ho c1 c2,hq]⟩
     rw[e']
     apply Classical.byContradiction
     intro hn
     exact ho (hI.pick x (by omega)).2.1
inductive Rch (H:Gm) (Y:Int->Prop):Int->Int->Prop
 | refl {v:Int}:Y v->Rch H Y v v
 | step {v u x:Int}:Y v->H.E v u->Rch H Y u x->Rch H Y v x
def Loop (H:Gm) (Y:Int->Prop) (v:Int):Prop:=∃u,H.E v u/\Rch H Y u v
theorem Rch.fst {v x:Int}(h:Rch H Y v x):Y v:=by cases h <;> assumption
theorem Rch.lst {v x:Int}(h:Rch H Y v x):Y x:=by induction h with
 | refl h=>exact h
 | step _ _ _ ih=>exact ih
theorem Rch.snoc {v x y:Int}(h:Rch H Y v x) (he:H.E x y) (hy:Y y):Rch H Y v y:=by induction h with
 | refl h=>exact .step h he (.refl hy)
 | step h1 h2 _ ih=>exact .step h1 h2 (ih he)
theorem Rch.mono {H':Gm}{Y':Int->Prop}{v x:Int}(h:Rch H Y v x) (hy:∀a,Y a->Y' a) (he:∀a b,Y a->Y b->H.E a b->H'.E a b):Rch H' Y' v x:=by induction h with
 | refl h=>exact .refl (hy _ h)
 | step h1 h2 h3 ih=>exact .step (hy _ h1) (he _ _ h1 h3.fst h2) ih
theorem Loop.mono {H':Gm}{Y':Int->Prop}{v:Int}(h:Loop H Y v) (hy:∀a,Y a->Y' a) (he:∀a b,Y a->Y b->H.E a b->H'.E a b):Loop H' Y' v:=by
 obtain⟨u,h1,h2⟩:=h
 exact⟨u,he v u h2.lst h2.fst h1,h2.mono hy he⟩
theorem Rch.path {v x:Int}(h:Rch H Y v x):∃(m:Nat) (f:Nat->Int),f 0=v/\f m=x/\(∀i,i<m->H.E (f i) (f (i+1)))/\∀i,i<=m->Y (f i):=by induction h with
 | @refl v h=>exact⟨0,λ_=>v,rfl,rfl,λi hi=>absurd hi (Nat.not_lt_zero i),λ_ _=>h⟩
 | @step v u x h1 h2 _ ih=>
  obtain⟨m,f,a1,a2,a3,a4⟩:=ih
  refine⟨m+1,λi=>match i with | 0=>v | i+1=>f i,rfl,a2,λi hi=>?_,λi hi=>?_⟩
  · cases i with
    | zero=>show H.E v (f 0);rw[a1];exact h2
    | succ i=>exact a3 i (by omega)
  · cases i with
    | zero=>exact h1
    | succ i=>exact a4 i (by omega)
theorem Rch.ofPath {f:Nat->Int}(he:∀i,H.E (f i) (f (i+1))){a:Nat}(hy:∀i,a<=i->Y (f i)) (m:Nat):Rch H Y (f a) (f (a+m)):=by induction m with
 | zero=>exact .refl (hy a (by omega))
 | succ m ih=>exact ih.snoc (he _) (hy _ (by omega))
def Io (S:Nat->Prop):Prop:=∀N,∃m,N<=m/\S m
theorem Io.val {f:Nat->Int}:∀(n:Nat){S:Nat->Prop},Io S->(∀m,S m->0<=f m/\f m<n)->∃v,Io λm=>S m/\f m=v:=by
 intro n
 induction n with
 | zero=>
  intro S hS hb
  obtain⟨m,_,hm⟩:=hS 0
  have:=hb m hm
  omega
 | succ n ih=>
  intro S hS hb
  by_cases h:Io λm=>S m/\f m=(n:Int)
  · exact⟨n,h⟩
  · obtain⟨N,hN⟩:=Classical.not_forall.1 h
    obtain⟨v,hv⟩:=ih (S:=λm=>S m/\N<=m) (λM=>by
     obtain⟨m,h1,h2⟩:=hS (max M N)
     exact⟨m,by omega,h2,by omega⟩) (λm hm=>by
     have:=hb m hm.1
     have:¬f m=(n:Int):=λe=>hN ⟨m,hm.2,hm.1,e⟩
     omega)
    exact⟨v,λM=>by
     obtain⟨m,h1,h2,h3⟩:=hv M
     exact⟨m,h1,h2.1,h3⟩⟩
theorem wW {f:Nat->Int}:∀(b:Nat) (N:Nat),(∀m,N<=m->0<=f m/\f m<b)->∃d,(∀N,∃n,N<=n/\f n=d)/\∃N,∀n,N<=n->f n<=d:=by
 intro b
 induction b with
 | zero=>
  intro N h
  have:=h N (by omega)
  omega
 | succ b ih=>
  intro N h
  by_cases h':∀N,∃n,N<=n/\f n=(b:Int)
  · exact⟨b,h',N,λn hn=>by have:=h n hn;omega⟩
  · obtain⟨M,hM⟩:=Classical.not_forall.1 h'
    refine ih (max N M) λm hm=>?_
    have:=h m (by omega)
    have:¬f m=(b:Int):=λe=>hM ⟨m,by omega,e⟩
    omega
structure Ans (G:Gm) (X:Int->Prop) (w:Int->Bool) (k:Int->Int):Prop where
 mine:∀v,X v->G.own v=w v->0<=k v/\G.E v (k v)/\X (k v)/\w (k v)=w v
 free:∀v,X v->¬G.own v=w v->k v<0
 yours:∀v u,X v->¬G.own v=w v->G.E v u->X u->w u=w v
 noloop:∀v,X v->¬oddP (G.pri v)=w v->¬Loop (pickG G k) (λx=>Rg X w (w v) x/\G.pri x<=G.pri v) v
theorem Ans.wins (h:Ans G X w k){n b:Nat}(hX:∀v,X v->0<=v/\v<n) (hp:∀v,X v->0<=G.pri v/\G.pri v<b){q:Bool}{π:Nat->Int}(hπ:Play G q (Rg X w q) k π):Wins G q π:=by
 obtain⟨d,d1,N,d2⟩:=wW (f:=λn=>G.pri (π n)) b 0 λm _=>hp _ (hπ m).1.1
 refine⟨d,?_,d1,N,d2⟩
 apply Classical.byContradiction
 intro hd
 obtain⟨v,hv⟩:=Io.val (f:=π) n (S:=λm=>N<=m/\G.pri (π m)=d) (λM=>by
  obtain⟨m,h1,h2⟩:=d1 (max M N)
  exact⟨m,by omega,by omega,h2⟩) (λm _=>hX _ (hπ m).1.1)
 obtain⟨m1,_,⟨c1,c2⟩,c3⟩:=hv 0
 obtain⟨m2,c4,_,c6⟩:=hv (m1+1)
 have c2:G.pri (π m1)=d:=c2
 rw[c3]at c2
 have hv1:Rg X w q v:=by rw[← c3];exact(hπ m1).1
 have hE:∀i,(pickG G k).E (π i) (π (i+1)):=λi=>by
  obtain⟨b1,b2,b3⟩:=hπ i
  refine⟨b2,?_⟩
  by_cases ho:G.own (π i)=q
  · exact .inr (b3 ho).symm
  · exact .inl (h.free _ b1.1 (by rw[b1.2];exact ho))
 have hr:=Rch.ofPath (H:=pickG G k) (Y:=λx=>Rg X w (w v) x/\G.pri x<=G.pri v) (f:=π) hE (a:=m1+1) (λi hi=>⟨by rw[hv1.2];exact(hπ i).1,by rw[c2];exact d2 i (by omega)⟩) (m2-(m1+1))
 rw[show m1+1+(m2-(m1+1))=m2 from by omega,c6]at hr
 refine h.noloop v hv1.1 (by rw[hv1.2,c2];exact hd) ⟨π (m1+1),?_,hr⟩
 have:=hE m1
 rwa [c3]at this
theorem Ans.dom (h:Ans G X w k){n b:Nat}(hX:∀v,X v->0<=v/\v<n) (hp:∀v,X v->0<=G.pri v/\G.pri v<b) (q:Bool):Dom G X q (Rg X w q):=by
 refine⟨k,λv hv=>hv.1,λv hv ho=>?_,λv u hv ho he hx=>⟨hx,?_⟩,λπ hπ=>h.wins hX hp hπ⟩
 · obtain⟨a1,a2,a3,a4⟩:=h.mine v hv.1 (by rw[ho,hv.2])
   exact⟨a2,a3,by rw[a4,hv.2]⟩
 · rw[h.yours v u hv.1 (by rw[hv.2];exact ho) he hx,hv.2]
theorem Ans.sol (h:Ans G X w k){n b:Nat}(hX:∀v,X v->0<=v/\v<n) (hp:∀v,X v->0<=G.pri v/\G.pri v<b):Sol G X false (Rg X w false):=by
 refine⟨λv hv=>hv.1,h.dom hX hp false,(h.dom hX hp true).congr λv=>?_⟩
 constructor
 · rintro⟨h1,h2⟩
   exact⟨h1,λh'=>absurd (h2.symm.trans h'.2) (by decide)⟩
 · rintro⟨h1,h2⟩
   refine⟨h1,?_⟩
   cases e:w v with
   | true=>rfl
   | false=>exact absurd ⟨h1,e⟩ h2
theorem PInv.ans (hI:PInv G X w k) (hk:∀v,X v->G.own v=w v->0<=k v):Ans G X w k:=by
 refine⟨λv hv ho=>⟨hk v hv ho,(hI.pick v (hk v hv ho)).2.2⟩,λv hv ho=>?_,hI.yours,λv hv ho hl=>?_⟩
 · apply Classical.byContradiction
   intro hn
   exact ho (hI.pick v (by omega)).2.1
 · obtain⟨σ,a1,a2,a3,a4⟩:=hI.dom (w v)
   obtain⟨u,he,hr⟩:=hl
   obtain⟨m,f,f0,fm,fe,fy⟩:=(Rch.step hr.lst he hr).path
   -- the loop has at least one step
   have hm:0<m\/True:= .inr trivial
   obtain⟨m',g,g0,gm,ge,gy⟩:=hr.path
   let π:Nat->Int:=λi=>if i % (m'+1)=0 then v else g (i % (m'+1)-1)
   have p0:∀i,i % (m'+1)=0->π i=v:=λi hi=>if_pos hi
   have p1:∀i,i % (m'+1)≠0->π i=g (i % (m'+1)-1):=λi hi=>if_neg hi
   have hY:∀i,Rg X w (w v) (π i)/\G.pri (π i)<=G.pri v:=λi=>by
    by_cases e:i % (m'+1)=0
    · rw[p0 i e];exact hr.lst
    · rw[p1 i e]
      exact gy _ (by have:=Nat.mod_lt i (show 0<m'+1 by omega);omega)
   have hE:∀i,(pickG G k).E (π i) (π (i+1)):=λi=>by
    have hlt:=Nat.mod_lt i (show 0<m'+1 by omega)
    have hs:(i+1) % (m'+1)=if i % (m'+1)=m' then 0 else i % (m'+1)+1:=by
     rw[Nat.add_mod]
     by_cases e:i % (m'+1)=m'
     · rw[if_pos e,e]
       cases m' with
       | zero=>simp
       | succ m'=>rw[Nat.mod_eq_of_lt (show 1<m'+1+1 by omega),Nat.mod_self]
     · rw[if_neg e,Nat.mod_eq_of_lt (show 1<m'+1 by omega),Nat.mod_eq_of_lt (by omega)]
    by_cases e:i % (m'+1)=m'
    · rw[if_pos e]at hs
      rw[p0 (i+1) hs]
      by_cases e0:i % (m'+1)=0
      · rw[p0 i e0]
        have:m'=0:=by omega
        subst this
        rw[← gm,g0]at he ⊢
        rw[g0]at gm
        rw[← gm]at *
        exact he
      · rw[p1 i e0,e,← gm]
        have:=ge (m'-1) (by omega)
        rwa [show m'-1+1=m' from by omega]at this
    · rw[if_neg e]at hs
      rw[p1 (i+1) (by omega),hs]
      by_cases e0:i % (m'+1)=0
      · rw[p0 i e0,e0,Nat.zero_add,Nat.sub_self,g0];exact he
      · rw[p1 i e0]
        have:=ge (i % (m'+1)-1) (by omega)
        rwa [show i % (m'+1)-1+1=i % (m'+1)+1-1 from by omega]at this
   have hπ:Play (pickG G k) (w v) (Rg X w (w v)) σ π:=λi=>by
    refine⟨(hY i).1,hE i,λhq=>?_⟩
    have ho:G.own (π i)=w (π i):=by rw[(hY i).1.2];exact hq
    have h0:=hk _ (hY i).1.1 ho
    have e1:=(hE i).2.resolve_left (by omega)
    have e2:=(a2 _ (hY i).1 hq).1.2.resolve_left (by omega)
    rw[← e1,← e2]
   obtain⟨d,d1,d2,N,d3⟩:=a4 π hπ
   obtain⟨i,i1,i2⟩:=d2 N
   have j1:=(hY i).2
   have j2:=d3 ((m'+1) * N) (by
    have:=Nat.le_mul_of_pos_left N (show 0<m'+1 by omega)
    exact this)
   rw[p0 _ (Nat.mul_mod_right _ _)]at j2
   have i2:G.pri (π i)=d:=i2
   have j2:G.pri v<=d:=j2
   have:d=G.pri v:=by omega
   rw[this]at d1
   exact ho d1
end Go.Proofs.YtleekpaohfpooaaGreat.Par
set_option linter.unusedVariables false
set_option linter.unusedSimpArgs false
namespace Go.Proofs.YtleekpaohfpooaaGreat
open Go Go.Wk Go.Proofs
open Classical
def pkL (k:List Int) (v:Int):Int:=(idx k v).getD (-1)
theorem oD {k:List Int}{v x:Int}(h:idx k v=some x):pkL k v=x:=by unfold pkL;rw[h];rfl
theorem ph {k k':List Int}{v u:Int}(h:setI k v u=some k'):pkL k'=Par.updF (pkL k) v u:=by
 funext w
 unfold pkL Par.updF
 rw[cS h]
 by_cases e:w=v
 · rw[if_pos e,if_pos e];rfl
 · rw[if_neg e,if_neg e]
theorem mO {k:List Int}{n:Nat}(hk:k.length=n){v:Int}(h0:0<=v) (h1:v<n):idx k v=some (pkL k v):=by
 obtain⟨x,hx⟩:=cj (xs:=k) h0 (by omega)
 rw[oD hx];exact hx
def Xn (n:Nat):Int->Prop:=λv=>0<=v/\v<n
theorem mX {a:Arena}{v:Int}(h:idx a.Next v=none):cv a v=[]:=by unfold cv;rw[h];rfl
section
variable {g:Parity}{n:Nat}(h:GOk g n)
include h
theorem yv {v u:Int}(he:(gI g).E v u):Xn n v/\Xn n u:=by
 have he:u∈cv g.Arena v:=he
 cases hr:idx g.Arena.Next v with
 | none=>rw[mX hr]at he;cases he
 | some r=>
  rw[dA hr]at he
  obtain⟨v0,v1⟩:=cq hr
  have:=h.ln
  exact⟨⟨v0,by omega⟩,(h.row v r hr).2.2 u he⟩
theorem wC (P:List (List Int)){k:List Int}(hk:k.length=n):gS ⟨g.Arena.Owner,g.Prio,g.Arena.Next,P,k⟩=Par.pickG (gI g) (pkL k):=by
 unfold gS gI Par.pickG mkG
 dsimp only
 congr 1
 funext v u
 apply propext
 cases hr:idx g.Arena.Next v with
 | none=>
  rw[mX hr]
  unfold rowS
  dsimp only
  rw[hr]
  simp
 | some r=>
  obtain⟨v0,v1⟩:=cq hr
  have hk':=mO hk v0 (by have:=h.ln;omega)
  rw[dA hr,o8 (x:=⟨g.Arena.Owner,g.Prio,g.Arena.Next,P,k⟩) hr hk',List.mem_filter]
  unfold okE
  simp
end
theorem qb {g:Parity}(hp:cA g=true):jn g.Arena=some g.Arena:=by
 obtain⟨h1,h2,h3,h4,h5⟩:=dp hp
 unfold jn kh
 rw[appL (by rw[yQ];omega) rfl,bE]
 obtain⟨s,e1,e2⟩:=bX (f:=fo g.Arena.Next) (λj s=>s=g.Arena.Next.take j) g.Arena.Next.length (s:=[]) rfl (λj s hj hs=>by
  subst hs
  have hx:g.Arena.Next[j]? =some g.Arena.Next[j]:=by simp[hj]
  have:=h5 j _ hx
  unfold fo
  rw[bH,hx,bE,appL (by rw[yQ];omega) rfl,bE,app1 (by rw[yP];omega) rfl]
  refine⟨_,rfl,?_⟩
  rw[yU,hx];rfl)
 rw[e1,e2,List.take_length,bE,bJ,bE]
 rfl
theorem rW {g:Parity}{n:Nat}(hp:cA g=true) (hn:n=g.Prio.length){k:List Int}(hk:k.length=n):∃s,kJ g.Arena k=some ⟨g.Arena.Owner,s⟩/\s.length=n/\∀v r,idx g.Arena.Next v=some r->idx s v=some (if 0<=pkL k v then[pkL k v] else r):=by
 have h:=GOk.of hp
 rw[← hn]at h
 unfold kJ
 rw[qb hp,bE,hk]
 obtain⟨s,h1,h2,h3⟩:=bX (f:=iu k) (λj (s:List (List Int))=>s.length=n/\∀v r,idx g.Arena.Next v=some r->idx s v=some (if v<j/\0<=pkL k v then[pkL k v] else r)) n (s:=g.Arena.Next) ⟨h.ln,λv r hr=>by
  have:=(cq hr).1
  rw[if_neg (by omega)];exact hr⟩ (λj s hj ⟨q1,q2⟩=>by
  have hkj:=mO hk (v:=(j:Int)) (by omega) (by omega)
  obtain⟨old,ho⟩:=cj (xs:=s) (i:=(j:Int)) (by omega) (by omega)
  obtain⟨s',hs,hl⟩:=cF (xs:=s) (i:=(j:Int)) [pkL k j] (by omega) (by omega)
  unfold iu
  rw[hkj,bE,ho,bE,hs,bE]
  by_cases e:0<=pkL k j
  · rw[decide_eq_true e,cond_true,bE]
    refine⟨_,rfl,by omega,λv r hr=>?_⟩
    rw[cS hs]
    by_cases ev:v=j
    · subst ev
      rw[if_pos rfl,if_pos ⟨by omega,e⟩]
    · rw[if_neg ev,q2 v r hr]
      by_cases ep:0<=pkL k v
      · by_cases el:v<j
        · rw[if_pos ⟨el,ep⟩,if_pos ⟨by omega,ep⟩]
        · rw[if_neg (λh=>el h.1),if_neg (λh=>by have:=h.1;omega)]
      · rw[if_neg (λh=>ep h.2),if_neg (λh=>ep h.2)]
  · rw[decide_eq_false e,cond_false,bE]
    refine⟨_,rfl,q1,λv r hr=>?_⟩
    rw[q2 v r hr]
    by_cases ep:0<=pkL k v
    · by_cases el:v<j
      · rw[if_pos ⟨el,ep⟩,if_pos ⟨by omega,ep⟩]
      · have:v≠j:=λev=>e (ev ▸ ep)
        rw[if_neg (λh=>el h.1),if_neg (λh=>by have:=h.1;omega)]
    · rw[if_neg (λh=>ep h.2),if_neg (λh=>ep h.2)])
 rw[h1,bE,bJ]
 refine⟨s,rfl,h2,λv r hr=>?_⟩
 rw[h3 v r hr]
 have:=(cq hr).2
 have:=h.ln
 by_cases ep:0<=pkL k v
 · rw[if_pos ⟨by omega,ep⟩,if_pos ep]
 · rw[if_neg (λh=>ep h.2),if_neg ep]
theorem xn {g:Parity}{n:Nat}(hp:cA g=true) (hn:n=g.Prio.length){k:List Int}(hk:k.length=n) (hE:∀v,0<=pkL k v->(gI g).E v (pkL k v)):∃g',mw g k=some g'/\GOk g' n/\gI g'=Par.pickG (gI g) (pkL k):=by
 have h:=GOk.of hp
 rw[← hn]at h
 obtain⟨s,s1,s2,s3⟩:=rW hp hn hk
 unfold mw
 rw[s1,bE,appL (by rw[yQ];have:=h.n256;omega) rfl,bE]
 have hrow:∀v r',idx s v=some r'->∃r,idx g.Arena.Next v=some r/\r'=if 0<=pkL k v then[pkL k v] else r:=λv r' hr'=>by
  obtain⟨v0,v1⟩:=cq hr'
  obtain⟨r,hr⟩:=cj (xs:=g.Arena.Next) (i:=v) v0 (by have:=h.ln;omega)
  refine⟨r,hr,?_⟩
  rw[s3 v r hr]at hr'
  exact(Option.some.inj hr').symm
 refine⟨_,rfl,⟨h.n256,h.lo,h.lp,s2,h.ow,λv r' hr'=>?_,h.pri⟩,?_⟩
 · obtain⟨r,hr,e⟩:=hrow v r' hr'
   by_cases ep:0<=pkL k v
   · rw[if_pos ep]at e
     have hE':pkL k v∈cv g.Arena v:=hE v ep
     rw[dA hr]at hE'
     subst e
     refine⟨by simp,by simp,λu hu=>?_⟩
     rw[yM]at hu
     subst hu
     exact(h.row v r hr).2.2 _ hE'
   · rw[if_neg ep]at e
     subst e
     exact h.row v r' hr
 · unfold gI Par.pickG mkG
   dsimp only
   congr 1
   funext v u
   apply propext
   cases hr:idx g.Arena.Next v with
   | none=>
    have:idx s v=none:=by
     cases hs:idx s v with
     | none=>rfl
     | some r'=>
      obtain⟨r,hr',_⟩:=hrow v r' hs
      rw[hr]at hr';cases hr'
    rw[mX hr,mX (a:=⟨g.Arena.Owner,s⟩) this]
    simp
   | some r=>
    rw[dA hr,dA (a:=⟨g.Arena.Owner,s⟩) (s3 v r hr)]
    by_cases ep:0<=pkL k v
    · rw[if_pos ep,yM]
      have hE':pkL k v∈cv g.Arena v:=hE v ep
      rw[dA hr]at hE'
      constructor
      · intro e;subst e;exact⟨hE',.inr rfl⟩
      · rintro⟨_,h | h⟩
        · omega
        · exact h.symm
    · rw[if_neg ep]
      exact⟨λhu=>⟨hu,.inl (by omega)⟩,λhu=>hu.1⟩
theorem wS {x:l7Game}{n:Nat}(wf:WfS x n) (hp:PriOk x.prio){B:List Bool}(hB:B.length=n) (hN:Par.NoDead (gS x) (In B)) (q:Bool):ox x B (b2i q)=some (decide (Par.Dom (gS x) (In B) q (In B))):=by
 have hn:=wf.n256
 obtain⟨R,r1,r2,r3⟩:=vU wf hp n B (2 ^ 64) hB hN (by have:=pG B;omega) (by omega)
 unfold ox
 rw[r1,bE]
 have hh:=Par.hold_iff (q:=q) r3
 have key:=kF (f:=lH B (b2i q) R) (r:=false) (λi b=> !(b&&(decide (In R (i:Int)) != !q))) (xs:=B) (n:=B.length) rfl (λi b hb=>by
  have hlt:=(List.getElem?_eq_some_iff.1 hb).1
  unfold lH
  rw[bH,hb,bE,fF (B:=R) (by omega) (by omega),bE,nP]
  cases b <;> cases(decide (In R (i:Int)) != !q) <;> rfl)
 rw[key,bE]
 have:(B.zipIdx.all λp=> !(p.1&&(decide (In R (p.2:Int)) != !q)))=decide (Par.Dom (gS x) (In B) q (In B)):=by
  rw[yR,decide_eq_true_iff,← hh,List.all_eq_true]
  constructor
  · intro ha v hv
    obtain⟨v0,v1⟩:=jp hB hv
    obtain⟨i,hi⟩:=ew v0
    subst hi
    have hv':idx B (i:Int)=some true:=hv
    rw[bH]at hv'
    have:=ha (true,i) (by rw[List.mem_zipIdx_iff_getElem?];exact hv')
    dsimp only at this
    by_cases hR:In R (i:Int)
    · rw[decide_eq_true hR]at this
      cases q with
      | true=>simp at this
      | false=>exact⟨λ_=>rfl,λ_=>hR⟩
    · rw[decide_eq_false hR]at this
      cases q with
      | true=>exact⟨λh=>absurd h hR,λh=>absurd h (by decide)⟩
      | false=>simp at this
  · rintro hm ⟨b,i⟩ hp
    rw[List.mem_zipIdx_iff_getElem?]at hp
    dsimp only at hp ⊢
    cases b with
    | false=>rfl
    | true=>
     have hv:In B (i:Int):=by unfold In;rw[bH];exact hp
     have:=hm _ hv
     by_cases hR:In R (i:Int)
     · rw[decide_eq_true hR,this.1 hR];rfl
     · rw[decide_eq_false hR]
       cases q with
       | true=>rfl
       | false=>exact absurd (this.2 rfl) hR
 rw[this]
 cases decide (Par.Dom (gS x) (In B) q (In B)) <;> rfl
end Go.Proofs.YtleekpaohfpooaaGreat
set_option linter.unusedVariables false
set_option linter.unusedSimpArgs false
namespace Go.Proofs.YtleekpaohfpooaaGreat
open Go Go.Wk Go.Proofs
open Classical
noncomputable def wB (W:Int->Prop) (v:Int):Bool:=decide (¬W v)
theorem vQ {W:Int->Prop}{v:Int}:wB W v=false↔W v:=by unfold wB;simp
theorem jP {n:Nat}{W:Int->Prop}{v:Int}(h:Xn n v):idx (wonL n W) v=some (b2i (wB W v)):=by
 obtain⟨h0,h1⟩:=h
 obtain⟨i,hi⟩:=ew h0
 subst hi
 rw[bH,sA (by omega)];rfl
theorem oF {k:Int->Int}{v a b:Int}:Par.updF (Par.updF k v a) v b=Par.updF k v b:=by
 funext x
 unfold Par.updF
 by_cases e:x=v
 · rw[if_pos e,if_pos e]
 · rw[if_neg e,if_neg e,if_neg e]
theorem qT {k:Int->Int}{v a:Int}(h:k v=a):Par.updF k v a=k:=by
 funext x
 unfold Par.updF
 by_cases e:x=v
 · rw[if_pos e,e,h]
 · rw[if_neg e]
theorem ur {a b:List Int}{n:Nat}(ha:a.length=n) (hb:b.length=n) (h:pkL a=pkL b):a=b:=by
 apply List.ext_getElem?
 intro i
 by_cases hi:i<n
 · have h1:=mO ha (v:=(i:Int)) (by omega) (by omega)
   have h2:=mO hb (v:=(i:Int)) (by omega) (by omega)
   rw[bH]at h1 h2
   rw[h1,h2,h]
 · rw[yS (by omega),yS (by omega)]
theorem te {C:Int->Prop}:∀{row:List Int},(∃u,u∈row/\C u)->∃(i:Nat) (u:Int),row[i]? =some u/\C u/\∀(j:Nat) y,j<i->row[j]? =some y->¬C y
 | [],h=>by obtain⟨u,hu,_⟩:=h;cases hu
 | x::r,h=>by
  by_cases hx:C x
  · exact⟨0,x,rfl,hx,λj y hj=>absurd hj (Nat.not_lt_zero j)⟩
  · obtain⟨i,u,h1,h2,h3⟩:=te (C:=C) (row:=r) (by
     obtain⟨u,hu,hc⟩:=h
     rcases List.mem_cons.1 hu with e | e
     · subst e;exact absurd hc hx
     · exact⟨u,e,hc⟩)
    refine⟨i+1,u,by simpa using h1,h2,λj y hj hy=>?_⟩
    cases j with
    | zero=>
     have:x=y:=by simpa using hy
     subst this;exact hx
    | succ j=>exact h3 j y (by omega) (by simpa using hy)
theorem ui {g:Parity}{n:Nat}(h:GOk g n){v:Int}(hv:Xn n v):idx g.Arena.Owner v=some (b2i ((gI g).own v)):=by
 obtain⟨o,ho⟩:=cj (xs:=g.Arena.Owner) (i:=v) hv.1 (by have:=h.lo;have:=hv.2;omega)
 rw[ho]
 show _=some (b2i (ownL g.Arena.Owner v))
 unfold ownL
 rw[ho]
 rcases h.ow v o ho with rfl | rfl <;> rfl
end Go.Proofs.YtleekpaohfpooaaGreat
