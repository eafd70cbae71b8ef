/- Lists of marks, lists of predecessors. Plain law. -/
import Derived.Test.YtpcjbkgbnoocaaaGreatL1EI
import Derived.Test.YtpcjbkgbnoocaaaGreatL0EI
set_option linter.unusedVariables false
set_option linter.unusedSimpArgs false
open Option renaming bind → ds, bind_some → gs
open List renaming getElem?_eq_getElem → hV, replicate → sh, mem_of_getElem? → t0, getElem?_replicate → vG, length_append → vK, length_cons → vN, length_nil → vP, getElem?_eq_none → vR, length_map → vV
open Bool renaming not_true → vJ, eq_iff_iff → vQ
namespace Go.Proofs.YtpcjbkgbnoocaaaGreat
open Go Go.Wk Go.Proofs
def hasN (N:List (List Int)) (u:Int) (v:Nat):Bool:=match N[v]? with
 | some r=>decide (u∈r)
 | none=>false
def prevL (N:List (List Int)) (u:Int) (j:Nat):List Int:=((List.range j).filter (hasN N u)).map Int.ofNat
theorem sb (N:List (List Int)) (u:Int) (j:Nat):prevL N u (j+1)=prevL N u j++(if hasN N u j=true then[(j:Int)] else[]):=by
 unfold prevL
 rw[List.range_succ,List.filter_append,List.map_append]
 congr 1
 by_cases h:hasN N u j=true
 · rw[if_pos h,List.filter_cons,if_pos h];rfl
 · rw[if_neg h,List.filter_cons,if_neg h];rfl
theorem mi:∀{xs:List Nat},xs.Nodup->(xs.map Int.ofNat).Nodup
 | [],_=>by simp
 | x::xs,h=>by
  obtain⟨h1,h2⟩:=List.nodup_cons.1 h
  rw[List.map_cons,List.nodup_cons]
  refine⟨λhm=>?_,mi h2⟩
  obtain⟨y,hy,e⟩:=List.mem_map.1 hm
  have:y=x:=Int.ofNat.inj e
  exact h1 (this ▸ hy)
theorem nu (N:List (List Int)) (u:Int) (j:Nat):(prevL N u j).Nodup:=by
 unfold prevL
 exact mi (List.nodup_range.filter _)
theorem na (N:List (List Int)) (u:Int) (j:Nat):(prevL N u j).length<=j:=by
 unfold prevL
 rw[vV]
 exact Nat.le_trans (List.length_filter_le _ _) (by rw[List.length_range];omega)
theorem pA {N:List (List Int)}{u v:Int}{n:Nat}(hn:N.length=n):v∈prevL N u n↔∃r,idx N v=some r/\u∈r:=by
 unfold prevL
 rw[List.mem_map]
 constructor
 · rintro⟨w,hw,rfl⟩
   obtain⟨h1,h2⟩:=List.mem_filter.1 hw
   unfold hasN at h2
   rw[List.mem_range]at h1
   have e:N[w]? =some N[w]:=hV (by omega)
   rw[e]at h2
   exact⟨N[w],by rw[show(Int.ofNat w)=(w:Int) from rfl,bG,e],by simpa using h2⟩
 · rintro⟨r,hr,hu⟩
   obtain⟨h0,h1⟩:=ck hr
   obtain⟨w,hw⟩:=eN h0
   subst hw
   rw[bG]at hr
   refine⟨w,List.mem_filter.2 ⟨List.mem_range.2 (by omega),?_⟩,rfl⟩
   unfold hasN
   rw[hr]
   simpa using hu
def PrevM (N:List (List Int)) (n j:Nat) (row:List Int) (i:Nat) (t:List (List Int)):Prop:=t.length=n/\∀u:Int,0<=u->u<n->idx t u=some (prevL N u j++(if u∈row.take i then[(j:Int)] else[]))
def PrevT (N:List (List Int)) (n j:Nat) (t:List (List Int)):Prop:=t.length=n/\∀u:Int,0<=u->u<n->idx t u=some (prevL N u j)
theorem PrevT.zero {N:List (List Int)}{n:Nat}:PrevT N n 0 (sh n []):=⟨by simp,λu u0 u1=>by
 rw[cG u0,vG,if_pos (by omega)];rfl⟩
theorem PrevT.first {N:List (List Int)}{n j:Nat}{t:List (List Int)}(h:PrevT N n j t) (row:List Int):PrevM N n j row 0 t:=⟨h.1,λu u0 u1=>by rw[h.2 u u0 u1];simp⟩
theorem PrevM.last {N:List (List Int)}{n j:Nat}{row:List Int}{t:List (List Int)}(hr:N[j]? =some row) (h:PrevM N n j row row.length t):PrevT N n (j+1) t:=⟨h.1,λu u0 u1=>by
 rw[h.2 u u0 u1,sb,List.take_length]
 unfold hasN
 rw[hr]
 by_cases hu:u∈row <;> simp[hu]⟩
theorem PrevM.step {N:List (List Int)}{n j i:Nat}{row:List Int}{t:List (List Int)}{u:Int}(h:PrevM N n j row i t) (hu:row[i]? =some u) (hn:row.Nodup) (u0:0<=u) (u1:u<n):
 ∃old,idx t u=some old/\old.length<=j+1/\∃t',setI t u (old++[(j:Int)])=some t'/\PrevM N n j row (i+1) t':=by
 refine⟨_,h.2 u u0 u1,?_,?_⟩
 · have:=na N u j
   rw[vK]
   split
   · simp;omega
   · simp;omega
 · have hnot:u∉row.take i:=by
    have h2:=hn.sublist (List.take_sublist (i+1) row)
    rw[List.take_add_one,hu,List.nodup_append]at h2
    exact λhm=>h2.2.2 u hm u (by simp) rfl
   obtain⟨t',h1,h2⟩:=cu (xs:=t) (i:=u) (prevL N u j++(if u∈row.take i then[(j:Int)] else[])++[(j:Int)]) u0 (by rw[h.1];exact u1)
   refine⟨t',h1,by rw[h2];exact h.1,λw w0 w1=>?_⟩
   have htk:row.take (i+1)=row.take i++[u]:=by rw[List.take_add_one,hu];rfl
   rw[cC h1,htk]
   by_cases e:w=u
   · subst e
     rw[if_pos rfl,if_neg hnot]
     simp
   · rw[if_neg e,h.2 w w0 w1]
     congr 2
     simp[e]
def marksL (B:List Bool) (j:Nat):List Int:=((List.range j).filter (λv=>B[v]?.getD false)).map Int.ofNat
theorem qF {B:List Bool}{j:Nat}{b:Bool}(h:B[j]? =some b):marksL B (j+1)=marksL B j++(if b=true then[(j:Int)] else[]):=by
 unfold marksL
 rw[List.range_succ,List.filter_append,List.map_append]
 congr 1
 rw[List.filter_cons,h]
 cases b <;> rfl
theorem kr (B:List Bool) (j:Nat):(marksL B j).Nodup:=by
 unfold marksL
 exact mi (List.nodup_range.filter _)
theorem kC (B:List Bool) (j:Nat):(marksL B j).length<=j:=by
 unfold marksL
 rw[vV]
 exact Nat.le_trans (List.length_filter_le _ _) (by rw[List.length_range];omega)
theorem cr {B:List Bool}{v:Int}:v∈marksL B B.length↔In B v:=by
 unfold marksL In
 rw[List.mem_map]
 constructor
 · rintro⟨w,hw,rfl⟩
   obtain⟨h1,h2⟩:=List.mem_filter.1 hw
   rw[List.mem_range]at h1
   rw[show(Int.ofNat w)=(w:Int) from rfl,bG]
   have e:B[w]? =some B[w]:=hV h1
   rw[e]at h2 ⊢
   simpa using h2
 · intro h
   obtain⟨h0,h1⟩:=ck h
   obtain⟨w,hw⟩:=eN h0
   subst hw
   rw[bG]at h
   exact⟨w,List.mem_filter.2 ⟨List.mem_range.2 (by omega),by rw[h];rfl⟩,rfl⟩
theorem py {ys:List Int}:∀{xs:List Int},xs.Nodup->(∀x∈xs,x∈ys)->xs.length<=ys.length:=by
 induction ys with
 | nil=>
  intro xs _ h
  cases xs with
  | nil=>simp
  | cons x xs=>exact absurd (h x (List.mem_cons_self ..)) (by simp)
 | cons y ys ih=>
  intro xs hn h
  by_cases hm:y∈xs
  · have h1:=List.length_erase_of_mem hm
    have h2:=ih (xs:=xs.erase y) (hn.erase _) (λx hx=>by
     rw[hn.mem_erase_iff]at hx
     exact(List.mem_cons.1 (h x hx.2)).resolve_left hx.1)
    rw[vN]
    omega
  · have:=ih (xs:=xs) hn (λx hx=>(List.mem_cons.1 (h x hx)).resolve_left λe=>hm (e ▸ hx))
    rw[vN]
    omega
def cnt (B:List Bool):Nat:=(marksL B B.length).length
theorem oo (B:List Bool):cnt B<=B.length:=kC _ _
theorem uA {A B:List Bool}(h:∀v,In A v->In B v):cnt A<=cnt B:=by
 unfold cnt
 exact py (kr _ _) λv hv=>cr.2 (h v (cr.1 hv))
theorem pQ {A B:List Bool}(h:∀v,In A v->In B v){w:Int}(hw:In B w) (hn:¬In A w):cnt A<cnt B:=by
 have hs:∀v∈w::marksL A A.length,v∈marksL B B.length:=λv hv=>by
  rcases List.mem_cons.1 hv with rfl | hv
  · exact cr.2 hw
  · exact cr.2 (h v (cr.1 hv))
 have hd:(w::marksL A A.length).Nodup:=List.nodup_cons.2 ⟨λhm=>hn (cr.1 hm),kr _ _⟩
 have:=py hd hs
 rw[vN]at this
 exact this
theorem oc {B:List Bool}(h:cnt B=0) (v:Int):¬In B v:=λhv=>by
 have:=cr.2 hv
 unfold cnt at h
 rw[List.length_eq_zero_iff]at h
 rw[h]at this
 cases this
end Go.Proofs.YtpcjbkgbnoocaaaGreat
set_option linter.unusedVariables false
set_option linter.unusedSimpArgs false
namespace Go.Proofs.YtpcjbkgbnoocaaaGreat
open Go Go.Wk Go.Proofs
theorem fill {ρ α:Type}{f:Int->List α->Option (ρ⊕(List α⊕List α))}(val:Nat->α) (n:Nat){s0:List α}(h0:s0.length=n)
 (step:∀(j:Nat) s,j<n->s.length=n->f (j:Int) s=ds (idx s (j:Int)) λ_=>ds (setI s (j:Int) (val j)) λy=>some (.inr (.inr y))):
 ∃s,cntM f n 0 s0=some (.inr s)/\s.length=n/\∀j:Nat,j<n->idx s (j:Int)=some (val j):=by
 obtain⟨s,h1,h2,h3⟩:=ca (f:=f) (λj (s:List α)=>s.length=n/\∀i:Nat,i<j->idx s (i:Int)=some (val i)) n (s:=s0) ⟨h0,λi hi=>absurd hi (Nat.not_lt_zero i)⟩ (λj s hj ⟨q1,q2⟩=>by
  obtain⟨old,ho⟩:=cg (xs:=s) (i:=(j:Int)) (by omega) (by omega)
  obtain⟨s',hs,hl⟩:=cu (xs:=s) (i:=(j:Int)) (val j) (by omega) (by omega)
  rw[step j s hj q1,ho,gs,hs,gs]
  refine⟨_,rfl,by omega,λi hi=>?_⟩
  rw[cC hs]
  by_cases e:(i:Int)=(j:Int)
  · have:i=j:=by omega
    subst this
    rw[if_pos rfl]
  · rw[if_neg e];exact q2 i (by omega))
 exact⟨s,h1,h2,h3⟩
theorem fillB {ρ:Type}{f:Int->List Bool->Option (ρ⊕(List Bool⊕List Bool))}(P:Int->Prop) [∀v,Decidable (P v)] (n:Nat){s0:List Bool}(h0:s0.length=n)
 (step:∀(j:Nat) s,j<n->s.length=n->f (j:Int) s=ds (idx s (j:Int)) λ_=>ds (setI s (j:Int) (decide (P (j:Int)))) λy=>some (.inr (.inr y))) (hP:∀v,P v->0<=v/\v<n):
 ∃s,cntM f n 0 s0=some (.inr s)/\s.length=n/\∀v,In s v↔P v:=by
 obtain⟨s,h1,h2,h3⟩:=fill (f:=f) (λj=>decide (P (j:Int))) n h0 step
 refine⟨s,h1,h2,λv=>?_⟩
 constructor
 · intro h
   obtain⟨v0,v1⟩:=ck h
   obtain⟨j,hj⟩:=eN v0
   subst hj
   have:=h3 j (by omega)
   unfold In at h
   rw[h]at this
   exact of_decide_eq_true (Option.some.inj this).symm
 · intro h
   obtain⟨v0,v1⟩:=hP v h
   obtain⟨j,hj⟩:=eN v0
   subst hj
   unfold In
   rw[h3 j (by omega),decide_eq_true h]
instance (B:List Bool) (v:Int):Decidable (In B v):=by unfold In;exact inferInstance
theorem vg {B:List Bool}{v:Int}{b:Bool}(h:idx B v=some b):b=decide (In B v):=by
 have:In B v↔b=true:=by unfold In;rw[h];simp
 rw[vQ];simp[this]
theorem ez {B:List Bool}{v:Int}(h0:0<=v) (h1:v<B.length):idx B v=some (decide (In B v)):=by
 obtain⟨b,hb⟩:=cg (xs:=B) h0 h1
 rw[← vg hb];exact hb
theorem iG {B:List Bool}{n:Nat}(hB:B.length=n){v:Int}(h:In B v):0<=v/\v<n:=by
 have:=ck h
 rw[hB]at this
 exact this
end Go.Proofs.YtpcjbkgbnoocaaaGreat
set_option linter.unusedVariables false
set_option linter.unusedSimpArgs false
namespace Go.Proofs.YtpcjbkgbnoocaaaGreat
open Go Go.Wk Go.Proofs
theorem kj {B:List Bool}(hl:B.length<=1000000):fa B=some (marksL B B.length):=by
 obtain⟨s,h1,h2⟩:=ca (f:=iv B) (λj (s:List Int)=>s=marksL B j) B.length (s:=[]) rfl (λj s hj hs=>by
  subst hs
  have hb:B[j]? =some B[j]:=hV hj
  generalize B[j]=b at hb
  have hlen:=kC B j
  unfold iv
  rw[bG,hb,gs,qF hb]
  cases b with
  | true=>
   simp only[cond_true]
   rw[app1 (by omega) rfl,gs,gs]
   exact⟨_,rfl,rfl⟩
  | false=>
   simp only[cond_false,gs]
   exact⟨_,rfl,by simp⟩)
 unfold fa
 rw[h1,gs,bK,h2]
theorem ko {A B:List Bool}{n:Nat}(hA:A.length=n) (hB:B.length=n) (hn:n<=256):∃R,eg A B=some R/\R.length=n/\∀v,In R v↔In A v/\¬In B v:=by
 unfold eg
 rw[hA,cE (by omega) rfl,gs]
 obtain⟨R,h1,h2,h3⟩:=fillB (f:=gz A B) (λv=>In A v/\¬In B v) n (s0:=sh n false) (by simp) (λj s hj hs=>by
  unfold gz
  rw[ez (B:=A) (by omega) (by omega),gs,ez (B:=B) (by omega) (by omega),gs,andE,gs]
  congr 1
  funext _
  congr 2
  rw[vQ];simp) (λv hv=>iG hA hv.1)
 rw[h1,gs,bK]
 exact⟨R,rfl,h2,h3⟩
end Go.Proofs.YtpcjbkgbnoocaaaGreat
set_option linter.unusedVariables false
set_option linter.unusedSimpArgs false
namespace Go.Proofs.YtpcjbkgbnoocaaaGreat
open Go Go.Wk Go.Proofs
section
variable {x:solver}{n:Nat}(wf:WfI x n){B:List Bool}(hB:B.length=n)
include wf hB
omit wf in
theorem pG {p:Bool}{goal:Int->Prop}{Q:List Int}(h:Cert (rowI x.game.Arena) (ownL x.game.Arena.Owner) (In B) p goal Q):Q.length<=n:=eH n Q h.nd λv hv=>nZ hB (h.mem v hv)
theorem tD {goal:List Bool}(hG:goal.length=n) (p:Bool) (hN:Par.NoDead (gI x.game) (In B)) (hsub:∀v,In goal v->In B v):∃A,ej x (b2i p) B goal=some A/\A.length=n/\Par.IsAttr (gI x.game) (In B) p (In goal) (In A):=by
 have hn:=wf.n256
 unfold ej
 rw[appL (by rw[vP];omega) rfl,gs,hB,cE (by omega) rfl,gs,kj (by omega),gs,List.nil_append]
 have hgm:∀v,v∈marksL goal goal.length↔In goal v:=λv=>cr
 have hc0:Cert (rowI x.game.Arena) (ownL x.game.Arena.Owner) (In B) p (In goal) (marksL goal goal.length):=⟨kr _ _,λv hv=>hsub v ((hgm v).1 hv),λk v hk=> .inl ((hgm v).1 (t0 hk))⟩
 have ht0:Trap (rowI x.game.Arena) (ownL x.game.Arena.Owner) (In B) p (marksL goal goal.length) (λ_ y=>y∈([]:List Int)):=λv hv hq=>⟨λ_ y _ _ h=>by simp at h,λho=>by
  obtain⟨u,e1,e2⟩:=hN v hv
  exact⟨u,e1,e2,by simp⟩⟩
 obtain⟨o,w1,w2⟩:=cw (f:=dH x (b2i p) B) (λj (s:List Int×List Bool×List Int)=>∃T Q,Q=T++s.1/\T.length=j/\Cert (rowI x.game.Arena) (ownL x.game.Arena.Owner) (In B) p (In goal) Q/\(∀v,In goal v->v∈Q)/\Trap (rowI x.game.Arena) (ownL x.game.Arena.Owner) (In B) p Q (λ_ y=>y∈T) /\
  (s.2.1.length=n/\∀v:Int,0<=v->v<n->idx s.2.1 v=some (decide (v∈Q)))/\(s.2.2.length=n/\∀w,In B w->w∉Q->¬ownL x.game.Arena.Owner w=p->LI x B s.2.2 w (λy=>y∈T))) (λ_=>False)
  (λs=>∃Q,Cert (rowI x.game.Arena) (ownL x.game.Arena.Owner) (In B) p (In goal) Q/\(∀v,In goal v->v∈Q)/\Trap (rowI x.game.Arena) (ownL x.game.Arena.Owner) (In B) p Q (λ_ y=>y∈Q)/\(s.2.1.length=n/\∀v:Int,0<=v->v<n->idx s.2.1 v=some (decide (v∈Q)))) n (λj s ⟨T,Q,a1,a2,a3,a4,a5,a6,a7⟩=>by
  obtain⟨R,out,left⟩:=s
  dsimp only at a1 a6 a7
  have hQn:=pG hB a3
  unfold dH
  dsimp only
  cases R with
  | nil=>
   rw[List.append_nil]at a1
   subst a1
   simp only[vP,Int.natCast_zero,Int.lt_irrefl,decide_false,cond_false]
   exact⟨_,rfl,Q,a3,a4,a5,a6⟩
  | cons u R=>
   have hlt:(0:Int)<((u::R).length:Int):=by simp only[vN];omega
   obtain⟨u0,u1⟩:=nZ hB (a3.mem u (by rw[a1];simp))
   obtain⟨P,hP⟩:=cg (xs:=x.preds) u0 (by rw[wf.lv];exact u1)
   obtain⟨p1,p2,p3⟩:=wf.prev u P hP
   have e2:idx (u::R) 0=some u:=rfl
   have e3:subS (u::R) 1 ((u::R).length:Int)=some R:=by
    unfold subS
    rw[if_pos ⟨by omega,by simp only[vN];omega,by omega⟩,Int.toNat_natCast,List.take_length]
    rfl
   have hm0:Mid (rowI x.game.Arena) (ownL x.game.Arena.Owner) (In B) p (In goal) T u [] Q:=by
    have:=Mid.first (T:=T) (u:=u) (R:=R) (a1 ▸ a3) (a1 ▸ a5)
    rwa [← a1]at this
   obtain⟨s',v1,v2⟩:=ca (f:=cW x (b2i p) B P) (λk (s:List Int×List Bool×List Int)=>Mid (rowI x.game.Arena) (ownL x.game.Arena.Owner) (In B) p (In goal) T u (P.take k) (T++u::s.1) /\
    (s.2.1.length=n/\∀v:Int,0<=v->v<n->idx s.2.1 v=some (decide (v∈T++u::s.1)))/\(s.2.2.length=n/\∀w,In B w->w∉T++u::s.1->¬ownL x.game.Arena.Owner w=p->LI x B s.2.2 w (dn T u (P.take k) w))/\(∀v∈Q,v∈T++u::s.1)) P.length (s:=(R,out,left))
    ⟨by dsimp only;rw[← a1];simpa using hm0,by dsimp only;rw[← a1];exact a6,⟨a7.1,λw hw hq ho=>by
     dsimp only at hq
     rw[← a1]at hq
     exact LI.congr (a7.2 w hw hq ho) λy _ _=>(jZ (by simp)).symm⟩,λv hv=>by dsimp only;rw[← a1];exact hv⟩ (λk s hk ⟨b3,b4,b5,b6⟩=>by
    obtain⟨R',out',left'⟩:=s
    dsimp only at b3 b4 b5 b6
    have hv:P[k]? =some P[k]:=hV hk
    generalize P[k]=v at hv
    have hQ'n:=pG hB b3.cert
    obtain⟨R2,o2,l2,c1,c2,c3,c4,c5⟩:=qT wf hB b3 rfl (oN p1 hv) hP hv (by omega) b4 b5
    refine⟨_,c1,?_,c3,?_,λv hv=>c5 v (b6 v hv)⟩
    · rw[gh hv];exact c2
    · rw[gh hv];exact c4)
   obtain⟨R',out',left'⟩:=s'
   obtain⟨c1,c2,c3,c4⟩:=v2
   rw[List.take_length]at c1 c3
   dsimp only at c1 c2 c3 c4
   simp only[hlt,decide_true,cond_true,e2,e3,gs,hP,v1,bK]
   have hall:∀v,In B v->u∈rowI x.game.Arena v->v∈P:=λv hv hu=>by
    rw[p3]
    unfold rowI at hu
    cases hr:idx x.game.Arena.Next v with
    | none=>rw[hr]at hu;simp at hu
    | some r=>rw[hr]at hu;exact⟨r,rfl,hu⟩
   have hjn:j<n:=by
    have:=congrArg List.length a1
    rw[vK,vN]at this
    omega
   refine⟨_,rfl,hjn,T++[u],T++u::R',by simp,by rw[vK,a2];rfl,c1.cert,λv hg=>c4 v (a4 v hg),c1.last hall,c2,c3.1,λw hw hq ho=>?_⟩
   refine LI.congr (c3.2 w hw hq ho) λy hy _=>?_
   unfold dn
   rw[List.mem_append,List.mem_singleton]
   constructor
   · rintro(h | ⟨h,_⟩)
     · exact .inl h
     · exact .inr h
   · rintro(h | h)
     · exact .inl h
     · exact .inr ⟨h,hall w hw (h ▸ hy)⟩) (2 ^ 64) 0 (marksL goal goal.length,goal,sh n 0) (by omega) ⟨[],marksL goal goal.length,rfl,rfl,hc0,λv hg=>(hgm v).2 hg,ht0,⟨hG,λv v0 v1=>by
     dsimp only
     rw[ez (B:=goal) v0 (by omega)]
     congr 1
     exact decide_eq_decide.2 (hgm v).symm⟩,⟨by simp,λw hw hq ho=> .inr ⟨by
     have:=nZ hB hw
     dsimp only
     rw[cG this.1,vG,if_pos (by omega)],λy _ _ h=>by simp at h⟩⟩⟩ (by omega)
 match o,w2 with
 | .inr s,⟨Q,k1,k2,k3,k4⟩=>
  rw[w1,gs,bK]
  refine⟨_,rfl,k4.1,?_⟩
  have ha:=k1.attr (pri:=priL x.game.Prio) (λv _ hg=>k2 v hg) k3
  have e:(λv=>v∈Q)=In s.2.1:=by
   funext v
   apply propext
   constructor
   · intro hv
     obtain⟨v0,v1⟩:=nZ hB (k1.mem v hv)
     unfold In;rw[k4.2 v v0 v1];simp[hv]
   · intro hv
     have hr:=ck hv
     unfold In at hv
     rw[k4.2 v hr.1 (by omega)]at hv
     simpa using hv
  rw[← e];exact ha
end
end Go.Proofs.YtpcjbkgbnoocaaaGreat
set_option linter.unusedVariables false
set_option linter.unusedSimpArgs false
namespace Go.Proofs.YtpcjbkgbnoocaaaGreat.Par
open Classical
variable {G:Gm}{X Y:Int->Prop}{p:Bool}{S S' A A2 W W2 D:Int->Prop}
theorem IsAttr.congrS (h:IsAttr G X p S A) (e:∀v,X v->(S v↔S' v)):IsAttr G X p S' A:=by
 obtain⟨r,hr⟩:=h.rank
 refine⟨h.sub,λv hx hs=>h.base v hx ((e v hx).2 hs),⟨r,λv hv=>?_⟩,h.mine,h.yours⟩
 rcases hr v hv with k | k
 · exact .inl ((e v (h.sub v hv)).1 k)
 · exact .inr k
structure Red (G:Gm) (X Y:Int->Prop) (p:Bool):Prop where
 sub:∀v,Y v->X v
 mine:∀D,Dom G Y p D->Dom G X p D
 yours:∀D,Dom G Y (!p) D->Dom G X (!p) (λv=>Mn X Y v\/D v)
theorem Red.refl:Red G X X p:=⟨λ_ h=>h,λ_ h=>h,λD h=>h.congr λv=>⟨.inr,λh=>h.resolve_left λh=>h.2 h.1⟩⟩
theorem Red.step (h:Red G X Y p) (hA:IsAttr G Y p S A) (hW:Sol G (Mn Y A) p W) (h2:IsAttr G Y (!p) (Mn (Mn Y A) W) A2):Red G X (Mn Y A2) p:=by
 have hL:Dom G Y (!p) (Mn (Mn Y A) W):=Dom.lift hA hW.yours
 refine⟨λv hv=>h.sub v hv.1,λD hD=>h.mine D ?_,λD hD=>(h.yours _ (Dom.grow hL h2 hD)).congr λv=>?_⟩
 · have:=Dom.lift (p:= !p) (D:=D) h2 (by rwa [Bool.not_not])
   rwa [Bool.not_not]at this
 · constructor
   · rintro(⟨k1,k2⟩ | k | k)
     · exact .inl ⟨k1,λk=>k2 k.1⟩
     · exact .inl ⟨h.sub v (h2.sub v k),λk'=>k'.2 k⟩
     · exact .inr k
   · rintro(⟨k1,k2⟩ | k)
     · by_cases hy:Y v
       · by_cases ha:A2 v
         · exact .inr (.inl ha)
         · exact absurd ⟨hy,ha⟩ k2
       · exact .inl ⟨k1,hy⟩
     · exact .inr (.inr k)
theorem Red.sol (h:Red G X Y p) (hY:Sol G Y p W):Sol G X p W:=⟨λv hv=>h.sub v (hY.sub v hv),h.mine W hY.mine,(h.yours _ hY.yours).congr λv=>by
 constructor
 · rintro(⟨k1,k2⟩ | k)
   · exact⟨k1,λk=>k2 (hY.sub v k)⟩
   · exact⟨h.sub v k.1,k.2⟩
 · rintro⟨k1,k2⟩
   by_cases hy:Y v
   · exact .inr ⟨hy,k2⟩
   · exact .inl ⟨k1,hy⟩⟩
theorem Sol.all (h:Dom G Y p Y):Sol G Y p Y:=⟨λ_ h=>h,h,Dom.empty.congr λv=>⟨λh=>h.elim,λh=>h.2 h.1⟩⟩
theorem Sol.none (h:∀v,¬X v):Sol G X p W->∀v,¬W v:=λhs v hv=>h v (hs.sub v hv)
theorem Sol.void (h:∀v,¬X v):Sol G X p X:=Sol.all (Dom.empty.congr λv=>⟨λh=>h.elim,λhx=>h v hx⟩)
theorem Sol.top {d:Int}(hN:NoDead G X) (hd:∀v,X v->G.pri v<=d) (hp:oddP d=p) (hA:IsAttr G X p (λv=>G.pri v=d) A) (hW:Sol G (Mn X A) p W) (hE:∀v,Mn X A v->W v):Sol G X p X:=
 Sol.all (Dom.top hN hd hp hA (hW.mine.congr λv=>⟨hW.sub v,hE v⟩))
theorem Sol.asP {q:Bool}(h:Sol G X q W) (p:Bool):Sol G X p (λv=>X v/\(W v↔p=q)):=by
 by_cases e:p=q
 · subst e
   exact h.congr λv=>⟨λhv=>⟨h.sub v hv,⟨λ_=>rfl,λ_=>hv⟩⟩,λhv=>hv.2.2 rfl⟩
 · have:p= !q:=by revert e;cases p <;> cases q <;> simp
   subst this
   exact h.flip.congr λv=>⟨λhv=>⟨hv.1,⟨λhw=>absurd hw hv.2,λe'=>absurd e' e⟩⟩,λhv=>⟨hv.1,λhw=>e (hv.2.1 hw)⟩⟩
end Go.Proofs.YtpcjbkgbnoocaaaGreat.Par
set_option linter.unusedVariables false
set_option linter.unusedSimpArgs false
namespace Go.Proofs.YtpcjbkgbnoocaaaGreat
open Go Go.Wk Go.Proofs
theorem mA {P:List Int}{v:Int}(h0:0<=v) (h1:v<P.length):idx P v=some (priL P v):=by
 obtain⟨q,hq⟩:=cg (xs:=P) h0 h1
 unfold priL;rw[hq];rfl
def PriOk (P:List Int):Prop:=∀v q,idx P v=some q->0<=q/\q<=40
theorem qC {d:Int}(h:0<=d):Int.tmod d 2=b2i (Par.oddP d):=by
 rw[Int.tmod_eq_emod_of_nonneg h]
 unfold Par.oddP b2i
 by_cases e:d % 2=1
 · simp[e]
 · simp[e];omega
theorem mV (p:Bool):(b2i p==0)= !p:=by cases p <;> rfl
theorem tz (p:Bool):(b2i p==1)=p:=by cases p <;> rfl
theorem lL (p q:Bool):(b2i p==b2i q)=(p==q):=by cases p <;> cases q <;> rfl
theorem j8 (p:Bool):IntKind.i64.wrap (1-b2i p)=b2i (!p):=by cases p <;> decide
theorem pC {A B:List Bool}{n:Nat}(hA:A.length=n) (hB:B.length=n) (hn:n<=256):∃R,j0 A B=some R/\R.length=n/\∀v,In R v↔In A v/\¬In B v:=by
 unfold j0
 rw[hA,cE (by omega) rfl,gs]
 obtain⟨R,h1,h2,h3⟩:=fillB (f:=ip A B) (λv=>In A v/\¬In B v) n (s0:=sh n false) (by simp) (λj s hj hs=>by
  unfold ip
  rw[ez (B:=A) (by omega) (by omega),gs,ez (B:=B) (by omega) (by omega),gs,andE,gs]
  congr 1
  funext _
  congr 2
  rw[vQ];simp) (λv hv=>iG hA hv.1)
 rw[h1,gs,bK]
 exact⟨R,rfl,h2,h3⟩
section
variable {x:l7Game}{n:Nat}(wf:WfS x n) (hp:PriOk x.prio)
include wf hp
theorem uK {B:List Bool}(hB:B.length=n):∃d:Int,mB x B=some d/\d<=40/\(∀v,In B v->priL x.prio v<=d)/\((d= -1/\∀v,¬In B v)\/(0<=d/\∃v,In B v/\priL x.prio v=d)):=by
 have hlp:=wf.lp
 obtain⟨s,h1,h2,h3,h4⟩:=ca (f:=jl x B) (λj (s:Int)=>s<=40/\(∀v,v<(j:Int)->In B v->priL x.prio v<=s)/\((s= -1/\∀v,v<(j:Int)->¬In B v)\/(0<=s/\∃v,In B v/\priL x.prio v=s))) B.length (s:=(-1:Int)) ⟨by omega,λv hv hi=>by
  have:=iG hB hi;omega,.inl ⟨rfl,λv hv hi=>by have:=iG hB hi;omega⟩⟩ (λj s hj ⟨q1,q2,q3⟩=>by
  rw[hB]at hj
  unfold jl
  have hq:=mA (P:=x.prio) (v:=(j:Int)) (by omega) (by omega)
  obtain⟨d0,d1⟩:=hp _ _ hq
  rw[ez (B:=B) (by omega) (by omega),gs,hq]
  by_cases hi:In B (j:Int)
  · simp only[hi,decide_true,cond_true,gs]
    unfold iK
    by_cases hlt:priL x.prio (j:Int)<s
    · simp only[hlt,decide_true,cond_true,gs]
      refine⟨_,rfl,q1,λv hv hi'=>?_,?_⟩
      · by_cases e:v=(j:Int)
        · subst e;omega
        · exact q2 v (by omega) hi'
      · rcases q3 with ⟨e,_⟩ | h
        · omega
        · exact .inr h
    · simp only[hlt,decide_false,cond_false,gs]
      refine⟨_,rfl,d1,λv hv hi'=>?_,.inr ⟨d0,(j:Int),hi,rfl⟩⟩
      by_cases e:v=(j:Int)
      · subst e;omega
      · have:=q2 v (by omega) hi';omega
  · simp only[hi,decide_false,cond_false,gs]
    refine⟨_,rfl,q1,λv hv hi'=>?_,?_⟩
    · by_cases e:v=(j:Int)
      · subst e;exact absurd hi' hi
      · exact q2 v (by omega) hi'
    · rcases q3 with ⟨e,h⟩ | h
      · refine .inl ⟨e,λv hv hi'=>?_⟩
        by_cases e:v=(j:Int)
        · subst e;exact hi hi'
        · exact h v (by omega) hi'
      · exact .inr h)
 unfold mB
 rw[h1,gs,bK]
 refine⟨s,rfl,h2,λv hv=>h3 v (by have:=iG hB hv;omega) hv,?_⟩
 rcases h4 with ⟨e,h⟩ | h
 · exact .inl ⟨e,λv hv=>h v (by have:=iG hB hv;omega) hv⟩
 · exact .inr h
omit wf hp in
theorem uQ {rest low:List Bool}{d:Int}{p:Bool}(hd:Int.tmod d 2=b2i p) (hr:rest.length=n) (hl:low.length=n):∃L b,cntM (gQ d rest low) n 0 (false,sh n false)=some (.inr (b,L))/\L.length=n/\(∀v,In L v↔In rest v/\(In low v↔p=true))/\(b=true↔∃v,In L v):=by
 let val:Nat->Bool:=λj=>decide (In rest (j:Int)/\(In low (j:Int)↔p=true))
 obtain⟨s,h1,h2,h3,h4⟩:=ca (f:=gQ d rest low) (λj (s:Bool×List Bool)=>s.2.length=n/\(∀i:Nat,i<j->idx s.2 (i:Int)=some (val i))/\(s.1=true↔∃i:Nat,i<j/\val i=true)) n (s:=(false,sh n false)) ⟨by simp,λi hi=>absurd hi (Nat.not_lt_zero i),by simp⟩ (λj s hj ⟨q1,q2,q3⟩=>by
  obtain⟨b,L⟩:=s
  dsimp only at q1 q2 q3
  obtain⟨old,ho⟩:=cg (xs:=L) (i:=(j:Int)) (by omega) (by omega)
  obtain⟨L',hs,hl'⟩:=cu (xs:=L) (i:=(j:Int)) (val j) (by omega) (by omega)
  have hv:(decide (In rest (j:Int))&&(decide (In low (j:Int)) != !p))=val j:=by
   show _=decide (In rest (j:Int)/\(In low (j:Int)↔p=true))
   rw[vQ]
   cases p <;> simp
  have hnew:idx L' (j:Int)=some (val j):=by rw[cC hs,if_pos rfl]
  unfold gQ
  dsimp only
  rw[ez (B:=rest) (by omega) (by omega),gs,ez (B:=low) (by omega) (by omega),gs,andE,gs,hd,mV,hv,ho,gs,hs,gs,hnew,gs,orE,gs]
  refine⟨_,rfl,by dsimp only;omega,λi hi=>?_,?_⟩
  · dsimp only
    rw[cC hs]
    by_cases e:(i:Int)=(j:Int)
    · have:i=j:=by omega
      subst this
      rw[if_pos rfl]
    · rw[if_neg e];exact q2 i (by omega)
  · dsimp only
    rw[Bool.or_eq_true,q3]
    constructor
    · rintro(⟨i,hi,h⟩ | h)
      · exact⟨i,by omega,h⟩
      · exact⟨j,by omega,h⟩
    · rintro⟨i,hi,h⟩
      by_cases e:i=j
      · subst e;exact .inr h
      · exact .inl ⟨i,by omega,h⟩)
 obtain⟨b,L⟩:=s
 dsimp only at h2 h3 h4
 have hIn:∀v,In L v↔In rest v/\(In low v↔p=true):=λv=>by
  constructor
  · intro h
    obtain⟨v0,v1⟩:=ck h
    obtain⟨j,hj⟩:=eN v0
    subst hj
    have:=h3 j (by omega)
    unfold In at h
    rw[h]at this
    exact of_decide_eq_true (Option.some.inj this).symm
  · intro h
    obtain⟨v0,v1⟩:=iG hr h.1
    obtain⟨j,hj⟩:=eN v0
    subst hj
    unfold In
    rw[h3 j (by omega)]
    congr 1
    exact decide_eq_true h
 refine⟨L,b,h1,h2,hIn,?_⟩
 rw[h4]
 constructor
 · rintro⟨i,hi,h⟩
   exact⟨(i:Int),(hIn _).2 (of_decide_eq_true h)⟩
 · rintro⟨v,hv⟩
   obtain⟨v0,v1⟩:=iG h2 hv
   obtain⟨j,hj⟩:=eN v0
   subst hj
   exact⟨j,by omega,decide_eq_true ((hIn _).1 hv)⟩
theorem tY:∀(k:Nat) (B:List Bool) (f:Nat),B.length=n->Par.NoDead (gS x) (In B)->cnt B<=k->k<f->∃R,iL f x B=some R/\R.length=n/\Par.Sol (gS x) (In B) false (In R):=by
 have hn:=wf.n256
 intro k
 induction k with
 | zero=>
  intro B f hB hN hk hf
  obtain⟨f,rfl⟩:∃g,f=g+1:=⟨f-1,by omega⟩
  show ∃R,gJ (iL f) x B=some R/\_
  unfold gJ
  obtain⟨d,t1,t2,t3,t4⟩:=uK wf hp hB
  have hno:=oc (B:=B) (by omega)
  rcases t4 with ⟨e,_⟩ | ⟨_,v,hv,_⟩
  · subst e
    rw[t1,gs,hB,cE (by omega) rfl,gs]
    refine⟨_,rfl,by simp,(Par.Sol.void hno).congr λv=>⟨λh=>absurd h (hno v),λh=>?_⟩⟩
    have hr:=ck h
    unfold In at h
    rw[cG hr.1,vG]at h
    split at h <;> simp at h
  · exact absurd hv (hno v)
 | succ k ih=>
  intro B f hB hN hk hf
  obtain⟨f,rfl⟩:∃g,f=g+1:=⟨f-1,by omega⟩
  show ∃R,gJ (iL f) x B=some R/\_
  unfold gJ
  obtain⟨d,t1,t2,t3,t4⟩:=uK wf hp hB
  rcases t4 with ⟨e,hno⟩ | ⟨hd0,w,hw,hwd⟩
  · subst e
    rw[t1,gs,hB,cE (by omega) rfl,gs]
    refine⟨_,rfl,by simp,(Par.Sol.void hno).congr λv=>⟨λh=>absurd h (hno v),λh=>?_⟩⟩
    have hr:=ck h
    unfold In at h
    rw[cG hr.1,vG]at h
    split at h <;> simp at h
  · have hneg:decide (d<0)=false:=by simp;omega
    have hwho:=qC hd0
    generalize hpe:Par.oddP d=p at hwho
    rw[t1,gs,hB,cE (by omega) rfl,gs]
    simp only[hneg,cond_false,gs]
    obtain⟨goal,g1,g2,g3⟩:=fillB (f:=jr x B d) (λv=>In B v/\priL x.prio v=d) n (s0:=sh n false) (by simp) (λj s hj hs=>by
     unfold jr
     rw[ez (B:=B) (by omega) (by omega),gs,mA (P:=x.prio) (by omega) (by rw[wf.lp];omega),gs,andE,gs]
     congr 1
     funext _
     congr 2
     rw[vQ];simp) (λv hv=>iG hB hv.1)
    rw[g1,gs,bK,hwho]
    obtain⟨A,a1,a2,a3⟩:=tH wf hB g2 p hN
    have hA:Par.IsAttr (gS x) (In B) p (λv=>(gS x).pri v=d) (In A):=a3.congrS λv hv=>by rw[g3];exact⟨λh=>h.2,λh=>⟨hv,h⟩⟩
    obtain⟨rest,r1,r2,r3⟩:=pC hB a2 hn
    have hX1:∀v,Par.Mn (In B) (In A) v↔In rest v:=λv=>(r3 v).symm
    have e1:Par.Mn (In B) (In A)=In rest:=funext λv=>propext (hX1 v)
    have hN1:Par.NoDead (gS x) (In rest):=e1 ▸ hN.less hA
    have hc1:cnt rest<cnt B:=pQ (λv hv=>((r3 v).1 hv).1) hw λh=>((r3 w).1 h).2 (a3.base w hw ((g3 w).2 ⟨hw,hwd⟩))
    obtain⟨low,l1,l2,l3⟩:=ih rest f r2 hN1 (by omega) (by omega)
    obtain⟨L,b,m1,m2,m3,m4⟩:=uQ hwho r2 l2
    simp only[a1,gs,r1,l1,m1,bK]
    have hW:=l3.asP p
    have hLe:∀v,In L v↔Par.Mn (In rest) (λv=>In rest v/\(In low v↔p=false)) v:=λv=>by
     rw[m3]
     unfold Par.Mn
     by_cases h1:In rest v <;> by_cases h2:In low v <;> cases p <;> simp[h1,h2]
    have eL:Par.Mn (In rest) (λv=>In rest v/\(In low v↔p=false))=In L:=funext λv=>propext (hLe v).symm
    cases hb:b with
    | false=>
     simp only[Bool.not_false,cond_true]
     have hno:∀v,¬In L v:=λv hv=>by
      have:=m4.2 ⟨v,hv⟩
      rw[hb]at this;cases this
     obtain⟨R,o1,o2,o3⟩:=fillB (f:=jd B d) (λv=>In B v/\p=false) n (s0:=sh n false) (by simp) (λj s hj hs=>by
      unfold jd
      rw[ez (B:=B) (by omega) (by omega),gs,andE,gs,hwho,mV]
      congr 1
      funext _
      congr 2
      rw[vQ];simp) (λv hv=>iG hB hv.1)
     rw[o1,gs,bK]
     refine⟨R,rfl,o2,?_⟩
     have hS:Par.Sol (gS x) (In B) p (In B):=Par.Sol.top hN t3 hpe hA (e1.symm ▸ hW) λv hv=>by
      have hv:=(hX1 v).1 hv
      apply Classical.byContradiction
      intro hc
      exact hno v ((hLe v).2 ⟨hv,λh=>hc ⟨(hX1 v).2 hv,h.2⟩⟩)
     refine(hS.asP false).congr λv=>?_
     rw[o3]
     constructor
     · rintro⟨k1,k2⟩;exact⟨k1,(k2.1 k1).symm⟩
     · rintro⟨k1,k2⟩;exact⟨k1,λ_=>k2.symm,λ_=>k1⟩
    | true=>
     simp only[vJ,cond_false]
     obtain⟨w2,hw2⟩:=m4.1 hb
     obtain⟨A2,b1,b2,b3⟩:=tH wf hB m2 (!p) hN
     obtain⟨rest2,c1,c2,c3⟩:=pC hB b2 hn
     have e2:Par.Mn (In B) (In A2)=In rest2:=funext λv=>propext (c3 v).symm
     have hN2:Par.NoDead (gS x) (In rest2):=e2 ▸ hN.less b3
     have hw2B:In B w2:=((r3 w2).1 ((m3 w2).1 hw2).1).1
     have hc2:cnt rest2<cnt B:=pQ (λv hv=>((c3 v).1 hv).1) hw2B λh=>((c3 w2).1 h).2 (b3.base w2 hw2B hw2)
     obtain⟨again,d1,d2,d3⟩:=ih rest2 f c2 hN2 (by omega) (by omega)
     rw[j8]
     simp only[b1,gs,c1,d1]
     obtain⟨R,o1,o2,o3⟩:=fillB (f:=i9 d A2 again) (λv=>In again v\/(In A2 v/\p=true)) n (s0:=sh n false) (by simp) (λj s hj hs=>by
      unfold i9
      rw[ez (B:=again) (by omega) (by omega),gs,ez (B:=A2) (by omega) (by omega),gs,andE,gs,orE,gs,hwho,tz]
      congr 1
      funext _
      congr 2
      rw[vQ];simp) (λv hv=>by
       rcases hv with h | h
       · exact iG d2 h
       · exact iG b2 h.1)
     rw[o1,gs,bK]
     refine⟨R,rfl,o2,?_⟩
     have hRed:Par.Red (gS x) (In B) (Par.Mn (In B) (In A2)) p:=Par.Red.refl.step hA (e1.symm ▸ hW) (by rw[e1,eL];exact b3)
     have hS:=hRed.sol (e2.symm ▸ d3.asP p)
     refine(hS.asP false).congr λv=>?_
     rw[o3]
     have k1:In again v->In rest2 v:=d3.sub v
     have k2:In A2 v->In B v:=b3.sub v
     have k3:=c3 v
     by_cases h1:In B v <;> by_cases h2:In A2 v <;> by_cases h3:In again v <;> cases hpp:p <;> simp[h1,h2]at k1 k2 k3 <;> simp[h1,h2,h3,k3] <;> simp_all
end
end Go.Proofs.YtpcjbkgbnoocaaaGreat
set_option linter.unusedVariables false
set_option linter.unusedSimpArgs false
namespace Go.Proofs.YtpcjbkgbnoocaaaGreat
open Go Go.Wk Go.Proofs
theorem ot {B:List Bool}:∃b,ci B true=some b/\(b=true↔∃v,In B v):=by
 unfold ci cR
 obtain⟨o,h1,h2⟩:=oB (f:=cq B true) (λj (_:Unit)=>∀v,v<(j:Int)->¬In B v) (λr=>0<=r/\∃v,In B v) (λ_=>False) B.length (s:=()) (λv hv hi=>by have:=ck hi;omega) (λj s hj hi=>by
  unfold cq
  rw[ez (B:=B) (by omega) (by omega),gs]
  by_cases h:In B (j:Int)
  · simp only[h,decide_true,BEq.rfl,cond_true]
    exact⟨_,rfl,by omega,_,h⟩
  · have:(true==decide (In B (j:Int)))=false:=by simp[h]
    simp only[this,cond_false]
    refine⟨_,rfl,λv hv hi'=>?_⟩
    by_cases e:v=(j:Int)
    · subst e;exact h hi'
    · exact hi v (by omega) hi')
 match o,h2 with
 | .inl r,⟨h0,hv⟩=>
  rw[h1,gs]
  exact⟨_,rfl,λ_=>hv,λ_=>decide_eq_true h0⟩
 | .inr _,h2=>
  have h2:=h2.resolve_right id
  rw[h1,gs,bK]
  refine⟨_,rfl,λh=>absurd h (by decide),λ⟨v,hv⟩=>absurd hv (h2 v (by have:=ck hv;omega))⟩
section
variable {x:solver}{n:Nat}(wf:WfI x n) (hp:PriOk x.game.Prio)
include wf hp
theorem vx {B:List Bool}(hB:B.length=n){w:Int}(hw:In B w):∃d:Int,mF x.game (marksL B B.length)=some d/\0<=d/\(∀v,In B v->priL x.game.Prio v<=d)/\∃v,In B v/\priL x.game.Prio v=d:=by
 have hlp:=wf.lp
 obtain⟨s,h1,h2,h3⟩:=ca (f:=jw x.game (marksL B B.length)) (λj (s:Int)=>(∀v∈(marksL B B.length).take j,priL x.game.Prio v<=s)/\((s= -1/\j=0)\/(0<=s/\∃v,In B v/\priL x.game.Prio v=s))) (marksL B B.length).length (s:=(-1:Int)) ⟨λv hv=>by simp at hv,.inl ⟨rfl,rfl⟩⟩ (λj s hj ⟨q2,q3⟩=>by
  have hu:(marksL B B.length)[j]? =some (marksL B B.length)[j]:=hV hj
  generalize(marksL B B.length)[j]=u at hu
  have hi:=cr.1 (t0 hu)
  obtain⟨u0,u1⟩:=iG hB hi
  have hq:=mA (P:=x.game.Prio) (v:=u) (by omega) (by omega)
  obtain⟨d0,d1⟩:=hp _ _ hq
  unfold jw
  rw[bG,hu,gs,hq,gs,gh hu]
  refine⟨_,rfl,λv hv=>?_,.inr ?_⟩
  · rcases List.mem_append.1 hv with hv | hv
    · have:=q2 v hv
      split <;> omega
    · rw[List.mem_singleton]at hv
      subst hv
      split <;> omega
  · by_cases hlt:s<priL x.game.Prio u
    · rw[if_pos hlt];exact⟨d0,u,hi,rfl⟩
    · rw[if_neg hlt]
      rcases q3 with ⟨e,_⟩ | h
      · omega
      · exact h)
 unfold mF
 rw[h1,gs,bK]
 rw[List.take_length]at h2
 have hm:=cr.2 hw
 rcases h3 with ⟨_,e⟩ | ⟨h0,h4⟩
 · rw[List.length_eq_zero_iff]at e
   rw[e]at hm
   cases hm
 · exact⟨s,rfl,h0,λv hv=>h2 v (cr.2 hv),h4⟩
theorem vA:∀(k:Nat) (B:List Bool) (f:Nat),B.length=n->Par.NoDead (gI x.game) (In B)->cnt B<=k->k<f->∃R q,cS f x B=some (R,b2i q)/\R.length=n/\Par.Sol (gI x.game) (In B) q (In R):=by
 have hn:=wf.n256
 intro k
 induction k with
 | zero=>
  intro B f hB hN hk hf
  obtain⟨f,rfl⟩:∃g,f=g+1:=⟨f-1,by omega⟩
  show ∃R q,c7 (cS f) x B=some (R,b2i q)/\_
  unfold c7
  have h0:cnt B=0:=by omega
  have hno:=oc h0
  rw[kj (by omega),gs]
  have e:((marksL B B.length).length:Int)=0:=by
   unfold cnt at h0;omega
  rw[e]
  exact⟨B,false,rfl,hB,Par.Sol.void hno⟩
 | succ k ih=>
  intro B f hB hN hk hf
  obtain⟨f,rfl⟩:∃g,f=g+1:=⟨f-1,by omega⟩
  show ∃R q,c7 (cS f) x B=some (R,b2i q)/\_
  unfold c7
  by_cases h0:cnt B=0
  · have hno:=oc h0
    rw[kj (by omega),gs]
    have e:((marksL B B.length).length:Int)=0:=by
     unfold cnt at h0;omega
    rw[e]
    exact⟨B,false,rfl,hB,Par.Sol.void hno⟩
  · have hw:∃w,In B w:=by
     apply Classical.byContradiction
     intro hc
     apply h0
     unfold cnt
     rw[List.length_eq_zero_iff]
     cases hm:marksL B B.length with
     | nil=>rfl
     | cons v vs=>exact absurd ⟨v,cr.1 (by rw[hm];exact List.mem_cons_self ..)⟩ hc
    obtain⟨w,hw⟩:=hw
    obtain⟨d,t1,hd0,t3,wt,hwt,hwd⟩:=vx wf hp hB hw
    have hne:((((marksL B B.length).length:Int))==0)=false:=by
     unfold cnt at h0
     have:((marksL B B.length).length:Int)≠0:=by omega
     simpa using this
    have hwho:=qC hd0
    generalize hpe:Par.oddP d=p at hwho
    rw[kj (by omega),gs,hne,cond_false,t1,gs,appL (by rw[vP];omega) rfl,gs,List.nil_append]
    obtain⟨o,w1,w2⟩:=cw (f:=d8 (cS f) x B d) (λj (now:List Bool)=>now.length=n/\Par.Red (gI x.game) (In B) (In now) p/\Par.NoDead (gI x.game) (In now)/\(cnt now<cnt B\/∀v,In B v->In now v)/\cnt now+j<=cnt B)
     (λr=>∃R,r=(R,b2i p)/\R.length=n/\Par.Sol (gI x.game) (In B) p (In R)) (λ_=>False) (cnt B) (λj now ⟨q1,q2,q3,q4,q5⟩=>by
     unfold d8
     rw[hB,cE (by omega) rfl,gs]
     obtain⟨goal,g1,g2,g3⟩:=fillB (f:=d9 x d now) (λv=>In now v/\priL x.game.Prio v=d) n (s0:=sh n false) (by simp) (λj s hj hs=>by
      unfold d9
      rw[ez (B:=now) (by omega) (by omega),gs,mA (P:=x.game.Prio) (by omega) (by rw[wf.lp];omega),gs,andE,gs]
      congr 1
      funext _
      congr 2
      rw[vQ];simp) (λv hv=>iG q1 hv.1)
     rw[List.length_replicate,g1,gs,bK,hwho]
     obtain⟨A,a1,a2,a3⟩:=tD wf q1 g2 p q3 λv hv=>((g3 v).1 hv).1
     have hA:Par.IsAttr (gI x.game) (In now) p (λv=>(gI x.game).pri v=d) (In A):=a3.congrS λv hv=>by rw[g3];exact⟨λh=>h.2,λh=>⟨hv,h⟩⟩
     obtain⟨rest,r1,r2,r3⟩:=ko q1 a2 hn
     have hX1:∀v,Par.Mn (In now) (In A) v↔In rest v:=λv=>(r3 v).symm
     have e1:Par.Mn (In now) (In A)=In rest:=funext λv=>propext (hX1 v)
     have hN1:Par.NoDead (gI x.game) (In rest):=e1 ▸ q3.less hA
     have hcn:cnt rest<=cnt now:=uA λv hv=>((r3 v).1 hv).1
     have hc1:cnt rest<cnt B:=by
      rcases q4 with h | h
      · omega
      · have hwn:=h wt hwt
        have:=pQ (λv hv=>((r3 v).1 hv).1) hwn λh=>((r3 wt).1 h).2 (a3.base wt hwn ((g3 wt).2 ⟨hwn,hwd⟩))
        omega
     obtain⟨W,q,l1,l2,l3⟩:=ih rest f r2 hN1 (by omega) (by omega)
     simp only[a1,gs,r1,l1,lL]
     have hW:=l3.asP p
     -- what is lost
     have hlost:∃L,(bif q==p then ds (eg rest W) λx80=>some (x80:List Bool) else some W)=some L/\L.length=n/\∀v,In L v↔Par.Mn (In rest) (λv=>In rest v/\(In W v↔p=q)) v:=by
      by_cases e:q=p
      · subst e
        obtain⟨L,m1,m2,m3⟩:=ko r2 l2 hn
        refine⟨L,by rw[m1,show(q==q)=true from by simp];rfl,m2,λv=>?_⟩
        rw[m3]
        unfold Par.Mn
        by_cases h1:In rest v <;> by_cases h2:In W v <;> simp[h1,h2]
      · have hb:(q==p)=false:=by simpa using e
        refine⟨W,by rw[hb];rfl,l2,λv=>?_⟩
        have:=l3.sub v
        unfold Par.Mn
        have e':¬p=q:=λh=>e h.symm
        by_cases h1:In rest v <;> by_cases h2:In W v <;> simp[h1,h2,e']at this ⊢
     obtain⟨L,m1,m2,m3⟩:=hlost
     have eL:Par.Mn (In rest) (λv=>In rest v/\(In W v↔p=q))=In L:=funext λv=>propext (m3 v).symm
     obtain⟨b,c1,c2⟩:=ot (B:=L)
     simp only[m1,gs,c1]
     cases hb:b with
     | false=>
      simp only[Bool.not_false,cond_true]
      have hno:∀v,¬In L v:=λv hv=>by
       have:=c2.2 ⟨v,hv⟩
       rw[hb]at this;cases this
      refine⟨_,rfl,now,rfl,q1,q2.sol (Par.Sol.top q3 (λv hv=>t3 v (q2.sub v hv)) hpe hA (e1.symm ▸ hW) λv hv=>?_)⟩
      have hv':=(hX1 v).1 hv
      apply Classical.byContradiction
      intro hc
      exact hno v ((m3 v).2 ⟨hv',λh=>hc ⟨hv,h.2⟩⟩)
     | true=>
      simp only[vJ,cond_false]
      obtain⟨w2,hw2⟩:=c2.1 hb
      have hLn:∀v,In L v->In now v:=λv hv=>((r3 v).1 ((m3 v).1 hv).1).1
      obtain⟨A2,b1,b2,b3⟩:=tD wf q1 m2 (!p) q3 hLn
      obtain⟨now2,n1,n2,n3⟩:=ko q1 b2 hn
      have e2:Par.Mn (In now) (In A2)=In now2:=funext λv=>propext (n3 v).symm
      have hN2:Par.NoDead (gI x.game) (In now2):=e2 ▸ q3.less b3
      have hc2:cnt now2<cnt now:=pQ (λv hv=>((n3 v).1 hv).1) (hLn w2 hw2) λh=>((n3 w2).1 h).2 (b3.base w2 (hLn w2 hw2) hw2)
      have hRed:Par.Red (gI x.game) (In B) (In now2) p:=by
       have:=q2.step hA (e1.symm ▸ hW) (by rw[e1,eL];exact b3)
       rwa [e2]at this
      obtain⟨b',c1',c2'⟩:=ot (B:=now2)
      rw[j8]
      simp only[b1,gs,n1,c1']
      cases hb':b' with
      | false=>
       simp only[Bool.not_false,cond_true]
       refine⟨_,rfl,now2,rfl,n2,hRed.sol (Par.Sol.void λv hv=>?_)⟩
       have:=c2'.2 ⟨v,hv⟩
       rw[hb']at this;cases this
      | true=>
       simp only[vJ,cond_false]
       exact⟨_,rfl,by omega,n2,hRed,hN2,.inl (by omega),by omega⟩) (2 ^ 64) 0 B (by have:=oo B;omega) ⟨hB,Par.Red.refl,hN,.inr λ_ h=>h,by omega⟩ (by omega)
    match o,w2 with
    | .inl r,⟨R,k1,k2,k3⟩=>
     subst k1
     rw[w1,gs]
     exact⟨R,p,rfl,k2,k3⟩
end
end Go.Proofs.YtpcjbkgbnoocaaaGreat
set_option linter.unusedVariables false
set_option linter.unusedSimpArgs false
namespace Go.Proofs.YtpcjbkgbnoocaaaGreat
open Go Go.Wk Go.Proofs
structure GOk (g:Parity) (n:Nat):Prop where
 n256:n<=256
 lo:g.Arena.Owner.length=n
 lp:g.Prio.length=n
 ln:g.Arena.Next.length=n
 ow:∀v o,idx g.Arena.Owner v=some o->o=0\/o=1
 row:∀v r,idx g.Arena.Next v=some r->r.length<=16/\r.Nodup/\∀u∈r,0<=u/\u<n
 pri:PriOk g.Prio
theorem sJ {α:Type}{xs:List α}{v:Int}{x:α}(h:idx xs v=some x):x∈xs:=by
 obtain⟨h0,_⟩:=ck h
 rw[cG h0]at h
 exact t0 h
theorem GOk.of {g:Parity}(h:parityOk g=true):GOk g g.Prio.length:=by
 obtain⟨h1,h2,h3,h4,h5⟩:=cU h
 obtain⟨hO,hP⟩:=n7 h
 refine⟨by omega,by omega,rfl,by omega,λv o ho=>?_,λv r hr=>?_,λv q hq=>?_⟩
 · have:=gk.1 (hO o (sJ ho))
   omega
 · obtain⟨v0,_⟩:=ck hr
   obtain⟨i,hi⟩:=eN v0
   subst hi
   rw[bG]at hr
   obtain⟨r1,r2,r3⟩:=h5 i r hr
   obtain⟨r4,r5⟩:=eh.1 r3
   exact⟨r2,gV r5,λu hu=>by have:=r4 u hu;omega⟩
 · have:=gk.1 (hP q (sJ hq))
   omega
section
variable {g:Parity}{n:Nat}(h:GOk g n)
include h
theorem sg:∃P,kb g.Arena=some P/\PrevT g.Arena.Next n n P:=by
 have hn:=h.n256
 unfold kb
 rw[h.lo,cE (by omega) rfl,gs,h.ln]
 obtain⟨s,h1,h2⟩:=ca (f:=gn g.Arena) (λj (s:List (List Int))=>PrevT g.Arena.Next n j s) n (s:=sh n []) PrevT.zero (λj s hj hs=>by
  have hr:g.Arena.Next[j]? =some (g.Arena.Next[j]'(by rw[h.ln];exact hj)):=hV (by rw[h.ln];exact hj)
  generalize g.Arena.Next[j]'(by rw[h.ln];exact hj)=row at hr
  obtain⟨r1,r2,r3⟩:=h.row (j:Int) row (by rw[bG];exact hr)
  unfold gn
  rw[bG,hr,gs]
  obtain⟨t,k1,k2⟩:=ca (f:=gA (j:Int) row) (λi (t:List (List Int))=>PrevM g.Arena.Next n j row i t) row.length (s:=s) (hs.first row) (λi t hi ht=>by
   have hu:row[i]? =some row[i]:=hV hi
   generalize row[i]=u at hu
   obtain⟨u0,u1⟩:=r3 u (t0 hu)
   obtain⟨old,m1,m2,t',m3,m4⟩:=ht.step hu r2 u0 u1
   unfold gA
   rw[bG,hu,gs,m1,gs,app1 (by omega) rfl,gs,gs,m3,gs]
   exact⟨_,rfl,m4⟩)
  rw[k1,gs,bK]
  exact⟨_,rfl,k2.last hr⟩)
 rw[h1,gs,bK]
 exact⟨s,rfl,h2⟩
theorem qn:∃P,mq g=some ⟨g.Arena.Owner,g.Prio,g.Arena.Next,P,sh n (-1)⟩/\PrevT g.Arena.Next n n P:=by
 have hn:=h.n256
 unfold mq
 rw[h.lp,cE (by omega) rfl,gs,cE (by omega) rfl,gs]
 obtain⟨s,h1,h2,h3,h4⟩:=ca (f:=kd g) (λj (s:List (List Int)×List Int)=>PrevT g.Arena.Next n j s.1/\s.2.length=n/\∀i:Nat,i<j->idx s.2 (i:Int)=some (-1)) n (s:=(sh n [],sh n 0)) ⟨PrevT.zero,by simp,λi hi=>absurd hi (Nat.not_lt_zero i)⟩ (λj s hj ⟨hs,q1,q2⟩=>by
  obtain⟨s,k⟩:=s
  dsimp only at hs q1 q2
  have hr:g.Arena.Next[j]? =some (g.Arena.Next[j]'(by rw[h.ln];exact hj)):=hV (by rw[h.ln];exact hj)
  generalize g.Arena.Next[j]'(by rw[h.ln];exact hj)=row at hr
  obtain⟨r1,r2,r3⟩:=h.row (j:Int) row (by rw[bG];exact hr)
  obtain⟨old,ho⟩:=cg (xs:=k) (i:=(j:Int)) (by omega) (by omega)
  obtain⟨k',hk,hkl⟩:=cu (xs:=k) (i:=(j:Int)) (-1) (by omega) (by omega)
  unfold kd
  dsimp only
  rw[ho,gs,hk,gs]
  obtain⟨o,w1,w2⟩:=cw (f:=j5 g (j:Int)) (λi (t:Int×List (List Int))=>t.1=(i:Int)/\i<=row.length/\PrevM g.Arena.Next n j row i t.2) (λ_=>False) (λt=>PrevM g.Arena.Next n j row row.length t.2) row.length (λi t ⟨a1,a2,a3⟩=>by
   obtain⟨i',t⟩:=t
   dsimp only at a1 a3
   subst a1
   unfold j5
   dsimp only
   rw[bG,hr,gs]
   by_cases hlt:i<row.length
   · have hlt':(i:Int)<(row.length:Int):=by omega
     have hu:row[i]? =some row[i]:=hV hlt
     generalize row[i]=u at hu
     obtain⟨u0,u1⟩:=r3 u (t0 hu)
     obtain⟨old,m1,m2,t',m3,m4⟩:=a3.step hu r2 u0 u1
     have hw:IntKind.i64.wrap ((i:Int)+1)=((i+1:Nat):Int):=by rw[wr' (by omega) (by omega)];omega
     simp only[hlt',decide_true,cond_true,gs,bG,hu,m1,app1 (show old.length<=10000000000 by omega) (show Nat.ble 8 1024=true from rfl),m3,hw]
     exact⟨_,rfl,hlt,rfl,by omega,m4⟩
   · have hlt':¬(i:Int)<(row.length:Int):=by omega
     simp only[hlt',decide_false,cond_false]
     have e:i=row.length:=by omega
     subst e
     exact⟨_,rfl,a3⟩) (2 ^ 64) 0 (0,s) (by omega) ⟨rfl,by omega,hs.first row⟩ (by omega)
  match o,w2 with
  | .inr t,w2=>
   rw[w1,gs,bK]
   refine⟨_,rfl,w2.last hr,by dsimp only;omega,λi hi=>?_⟩
   dsimp only
   rw[cC hk]
   by_cases e:(i:Int)=(j:Int)
   · rw[if_pos e]
   · rw[if_neg e];exact q2 i (by omega))
 rw[h1,gs,bK]
 have e:s.2=sh n (-1):=by
  apply List.ext_getElem?
  intro i
  rw[vG]
  by_cases hi:i<n
  · rw[if_pos hi,← bG];exact h4 i hi
  · rw[if_neg hi];exact vR (by omega)
 refine⟨s.1,?_,h2⟩
 rw[e]
theorem GOk.wfI {P:List (List Int)}(hP:PrevT g.Arena.Next n n P):WfI ⟨g,P⟩ n:=by
 refine⟨h.n256,h.lo,h.lp,h.ln,hP.1,h.ow,h.row,λu Q hQ=>?_⟩
 obtain⟨u0,u1⟩:=ck hQ
 have u1:u<(P.length:Int):=u1
 have hQ:idx P u=some Q:=hQ
 rw[hP.2 u u0 (by have:=hP.1;omega)]at hQ
 cases hQ
 have:=na g.Arena.Next u n
 have:=h.n256
 exact⟨nu _ _ _,by omega,λv=>pA h.ln⟩
theorem GOk.wfS {P:List (List Int)}(hP:PrevT g.Arena.Next n n P){k:List Int}(hk:k.length=n):WfS ⟨g.Arena.Owner,g.Prio,g.Arena.Next,P,k⟩ n:=by
 refine⟨h.n256,h.lo,h.lp,h.ln,hk,hP.1,h.ow,h.row,λu Q hQ=>?_⟩
 obtain⟨u0,u1⟩:=ck hQ
 have u1:u<(P.length:Int):=u1
 have hQ:idx P u=some Q:=hQ
 rw[hP.2 u u0 (by have:=hP.1;omega)]at hQ
 cases hQ
 have:=na g.Arena.Next u n
 have:=h.n256
 exact⟨nu _ _ _,by omega,λv=>pA h.ln⟩
theorem sI (P:List (List Int)):gS ⟨g.Arena.Owner,g.Prio,g.Arena.Next,P,sh n (-1)⟩=gI g:=by
 unfold gS gI
 congr 1
 funext v
 unfold rowS rowI
 dsimp only
 cases hr:idx g.Arena.Next v with
 | none=>rfl
 | some r=>
  obtain⟨v0,v1⟩:=ck hr
  have:idx (sh n (-1:Int)) v=some (-1):=by
   rw[cG v0,vG,if_pos (by have:=h.ln;omega)]
  rw[this]
  show r.filter (okE (-1))=r
  rw[List.filter_eq_self]
  intro a _
  rfl
theorem tS:mD (g.Prio.length:Int)=some (sh n true):=by
 have hn:=h.n256
 unfold mD
 have hr:rng (n:Int)=some ()\/True:= .inr trivial
 rw[h.lp,cE (by omega) rfl,gs,show Int.toNat ((n:Int)-0)=n from by omega]
 obtain⟨s,h1,h2,h3⟩:=fill (f:=jF) (λ_=>true) n (s0:=sh n false) (by simp) (λj s hj hs=>by
  unfold jF
  rfl)
 rw[h1]
 have e:s=sh n true:=by
  apply List.ext_getElem?
  intro i
  rw[vG]
  by_cases hi:i<n
  · rw[if_pos hi,← bG];exact h3 i hi
  · rw[if_neg hi];exact vR (by omega)
 subst e
 have:rng (n:Int)=some ():=by
  unfold rng
  first
   | rfl
   | rw[if_pos (by omega)]
 rw[this];rfl
omit h in
theorem rZ (v:Int):In (sh n true) v↔0<=v/\v<n:=by
 constructor
 · intro h
   have:=ck h
   simpa using this
 · rintro⟨h0,h1⟩
   unfold In
   rw[cG h0,vG,if_pos (by omega)]
theorem tx {L:List Int}(hL:∀v∈L,0<=v/\v<n):∃R,lw g.Arena L=some R/\R.length=n/\∀v,In R v↔v∈L:=by
 have hn:=h.n256
 unfold lw
 rw[h.lo,cE (by omega) rfl,gs]
 obtain⟨s,h1,h2,h3⟩:=ca (f:=iz L) (λj (s:List Bool)=>s.length=n/\∀v:Int,0<=v->v<n->idx s v=some (decide (v∈L.take j))) L.length (s:=sh n false) ⟨by simp,λv v0 v1=>by
  rw[cG v0,vG,if_pos (by omega)];simp⟩ (λj s hj ⟨q1,q2⟩=>by
  have hu:L[j]? =some L[j]:=hV hj
  generalize L[j]=u at hu
  obtain⟨u0,u1⟩:=hL u (t0 hu)
  obtain⟨s',hs,hl⟩:=cu (xs:=s) (i:=u) true u0 (by omega)
  unfold iz
  rw[bG,hu,gs,q2 u u0 u1,gs,hs,gs]
  refine⟨_,rfl,by omega,λv v0 v1=>?_⟩
  rw[cC hs,gh hu]
  by_cases e:v=u
  · rw[if_pos e];simp[e]
  · rw[if_neg e,q2 v v0 v1];simp[e])
 rw[h1,gs,bK]
 refine⟨s,rfl,h2,λv=>?_⟩
 rw[List.take_length]at h3
 constructor
 · intro hi
   have hi':=iG h2 hi
   unfold In at hi
   rw[h3 v hi'.1 hi'.2]at hi
   simpa using hi
 · intro hm
   obtain⟨v0,v1⟩:=hL v hm
   unfold In
   rw[h3 v v0 v1]
   simpa using hm
theorem qM {L:List Int}(hL:∀v∈L,0<=v/\v<n) (hN:Par.NoDead (gI g) (λv=>v∈L)):∃E O W,lN g L=some (E,O)/\Par.Sol (gI g) (λv=>v∈L) false W/\(∀v,v∈E↔W v)/\(∀v,v∈O↔v∈L/\¬W v)/\E.length<=n/\O.length<=n:=by
 have hn:=h.n256
 obtain⟨P,p1,p2⟩:=sg h
 obtain⟨M,m1,m2,m3⟩:=tx h hL
 have eM:In M=λv=>v∈L:=funext λv=>propext (m3 v)
 obtain⟨R,q,r1,r2,r3⟩:=vA (h.wfI p2) h.pri n M (2 ^ 64) m2 (by rw[eM];exact hN) (by have:=oo M;omega) (by omega)
 obtain⟨X,x1,x2,x3⟩:=ko m2 r2 hn
 have lR:=kC R R.length
 have lX:=kC X X.length
 have r3:Par.Sol (gI g) (In M) q (In R):=r3
 unfold lN
 rw[p1,gs,m1,gs,r1,gs]
 dsimp only
 rw[mV,kj (by omega),x1]
 simp only[gs]
 rw[kj (by omega)]
 simp only[gs]
 have hsol:=r3.asP false
 rw[eM]at hsol
 have hsub:=r3.sub
 cases q with
 | false=>
  simp only[Bool.not_false,cond_true]
  refine⟨_,_,_,rfl,hsol,λv=>?_,λv=>?_,by omega,by omega⟩
  · rw[cr]
    exact⟨λhv=>⟨(m3 v).1 (hsub v hv),λ_=>rfl,λ_=>hv⟩,λhv=>hv.2.2 rfl⟩
  · rw[cr,x3,m3]
    exact⟨λhv=>⟨hv.1,λhw=>hv.2 (hw.2.2 rfl)⟩,λhv=>⟨hv.1,λhr=>hv.2 ⟨hv.1,λ_=>rfl,λ_=>hr⟩⟩⟩
 | true=>
  simp only[vJ,cond_false]
  refine⟨_,_,_,rfl,hsol,λv=>?_,λv=>?_,by omega,by omega⟩
  · rw[cr,x3,m3]
    exact⟨λhv=>⟨hv.1,λhr=>absurd hr hv.2,λhf=>absurd hf (by decide)⟩,λhv=>⟨hv.1,λhr=>absurd (hv.2.1 hr) (by decide)⟩⟩
  · rw[cr]
    constructor
    · intro hr
      exact⟨(m3 v).1 (hsub v hr),λhw=>absurd (hw.2.1 hr) (by decide)⟩
    · rintro⟨hl,hw⟩
      apply Classical.byContradiction
      intro hr
      exact hw ⟨hl,λh'=>absurd h' hr,λhf=>absurd hf (by decide)⟩
end
end Go.Proofs.YtpcjbkgbnoocaaaGreat
set_option linter.unusedVariables false
set_option linter.unusedSimpArgs false
namespace Go.Proofs.YtpcjbkgbnoocaaaGreat
open Go Go.Wk Go.Proofs
open Classical
theorem tL {a:Arena}(h:a.Owner.length<=256):my a=some ((List.range a.Owner.length).map Int.ofNat):=by
 unfold my kG n0
 rw[gs,show decide ((a.Owner.length:Int)<0)=false from by simp]
 simp only[cond_false,gs]
 rw[show decide ((256:Int)<(a.Owner.length:Int))=false from by simp;omega,cond_false,show Int.toNat ((a.Owner.length:Int)-0)=a.Owner.length from by omega]
 obtain⟨s,h1,h2⟩:=ca (f:=ji) (λj (s:List Int)=>s=(List.range j).map Int.ofNat) a.Owner.length (s:=[]) rfl (λj s hj hs=>by
  subst hs
  unfold ji
  rw[app1 (by rw[vV,List.length_range];omega) rfl,gs]
  exact⟨_,rfl,by rw[List.range_succ,List.map_append];rfl⟩)
 rw[h1]
 subst h2
 have:rng (a.Owner.length:Int)=some ():=by
  unfold rng
  first
   | rfl
   | rw[if_pos (by omega)]
 rw[this];rfl
noncomputable def wonL (n:Nat) (W:Int->Prop):List Int:=(List.range n).map λ(v:Nat)=>b2i (decide (¬W (v:Int)))
theorem mJ (n:Nat) (W:Int->Prop):(wonL n W).length=n:=by unfold wonL;rw[vV,List.length_range]
theorem qQ {n:Nat}{W:Int->Prop}{v:Nat}(h:v<n):(wonL n W)[v]? =some (b2i (decide (¬W (v:Int)))):=by
 unfold wonL
 rw[List.getElem?_map,List.getElem?_range h];rfl
theorem sM {n:Nat}{W:Int->Prop}{l:List Int}(hl:l.length=n) (h:∀v:Nat,v<n->l[v]? =some (b2i (decide (¬W (v:Int))))):l=wonL n W:=by
 apply List.ext_getElem?
 intro i
 by_cases hi:i<n
 · rw[h i hi,qQ hi]
 · rw[vR (by omega),vR (by rw[mJ];omega)]
theorem kB {g:Parity}{n:Nat}(h:GOk g n) (hr:∀v r,idx g.Arena.Next v=some r->r≠[]):Par.NoDead (gI g) (λv=>0<=v/\v<n):=λv ⟨v0,v1⟩=>by
 obtain⟨r,hv⟩:=cg (xs:=g.Arena.Next) v0 (by have:=h.ln;omega)
 cases r with
 | nil=>exact absurd rfl (hr v [] hv)
 | cons u us=>
  refine⟨u,?_,(h.row v _ hv).2.2 u (List.mem_cons_self ..)⟩
  show u∈rowI g.Arena v
  rw[eV hv];exact List.mem_cons_self ..
theorem tt {g:Parity}{n:Nat}(h:GOk g n) (hr:∀v r,idx g.Arena.Next v=some r->r≠[]):∃W,eY g=some (wonL n W)/\eW g=some (wonL n W)/\Par.Sol (gI g) (λv=>0<=v/\v<n) false W:=by
 have hn:=h.n256
 have hN:=kB h hr
 -- the program
 have hmem:∀v:Int,v∈(List.range n).map Int.ofNat↔0<=v/\v<n:=λv=>by
  rw[List.mem_map]
  constructor
  · rintro⟨w,hw,rfl⟩
    rw[List.mem_range]at hw
    exact⟨Int.natCast_nonneg w,by show(w:Int)<n;omega⟩
  · rintro⟨v0,v1⟩
    obtain⟨w,hw⟩:=eN v0
    subst hw
    exact⟨w,List.mem_range.2 (by omega),rfl⟩
 have eX:(λv=>v∈(List.range n).map Int.ofNat)=λv:Int=>0<=v/\v<n:=funext λv=>propext (hmem v)
 obtain⟨E,O,W,k1,k2,k3,k4,k5,k6⟩:=qM h (L:=(List.range n).map Int.ofNat) (λv hv=>(hmem v).1 hv) (by rw[eX];exact hN)
 rw[eX]at k2
 refine⟨W,?_,?_,k2⟩
 · -- the reference
   obtain⟨P,p1,p2⟩:=qn h
   have hg:=sI h P
   have hA:In (sh n true)=λv:Int=>0<=v/\v<n:=funext λv=>propext (rZ v)
   obtain⟨R,r1,r2,r3⟩:=tY (h.wfS p2 (k:=sh n (-1)) (by simp)) h.pri n (sh n true) (2 ^ 64) (by simp) (by rw[hA,hg];exact hN) (by have:=oo (sh n true);simp at this;exact this) (by omega)
   rw[hg,hA]at r3
   have huq:=r3.uniq k2
   unfold eY
   rw[p1,gs,tS h,gs,r1,gs,r2]
   obtain⟨s,h1,h2,h3⟩:=ca (f:=fI R) (λj (s:List Int)=>s.length=j/\∀i:Nat,i<j->s[i]? =some (b2i (decide (¬W (i:Int))))) n (s:=[]) ⟨rfl,λi hi=>absurd hi (Nat.not_lt_zero i)⟩ (λj s hj ⟨q1,q2⟩=>by
    unfold fI
    rw[ez (B:=R) (by omega) (by omega),gs]
    have hf:eb (decide (In R (j:Int)))=some (b2i (decide (In R (j:Int)))):=by
     unfold eb
     cases decide (In R (j:Int)) <;> rfl
    rw[hf,gs,j8,app1 (by omega) rfl,gs]
    refine⟨_,rfl,by rw[vK];simp;omega,λi hi=>?_⟩
    by_cases e:i<j
    · rw[List.getElem?_append_left (by omega)];exact q2 i e
    · have:i=j:=by omega
      subst this
      rw[List.getElem?_append_right (by omega),q1,Nat.sub_self]
      show some _=some _
      congr 2
      rw[← decide_not]
      exact decide_eq_decide.2 (not_congr (huq _)))
   rw[h1,gs,bK,sM h2 h3]
 · unfold eW
   rw[h.lp,cE (by omega) rfl,gs,tL (by have:=h.lo;omega),h.lo,gs,k1,gs]
   obtain⟨s,h1,h2,h3⟩:=ca (f:=fY (E,O)) (λj (s:List Int)=>s.length=n/\∀v:Int,0<=v->v<n->idx s v=some (b2i (decide (v∈O.take j)))) O.length (s:=sh n 0) ⟨by simp,λv v0 v1=>by
    rw[cG v0,vG,if_pos (by omega)];simp[b2i]⟩ (λj s hj ⟨q1,q2⟩=>by
    have hu:O[j]? =some O[j]:=hV hj
    generalize O[j]=u at hu
    obtain⟨u0,u1⟩:=(hmem u).1 ((k4 u).1 (t0 hu)).1
    obtain⟨s',hs,hl⟩:=cu (xs:=s) (i:=u) 1 u0 (by omega)
    unfold fY
    dsimp only
    rw[bG,hu,gs,q2 u u0 u1,gs,hs,gs]
    refine⟨_,rfl,by omega,λv v0 v1=>?_⟩
    rw[cC hs,gh hu]
    by_cases e:v=u
    · rw[if_pos e];simp[e,b2i]
    · rw[if_neg e,q2 v v0 v1];simp[e])
   dsimp only
   rw[h1,gs,bK]
   congr 1
   rw[List.take_length]at h3
   refine sM h2 λv hv=>?_
   rw[← bG,h3 _ (by omega) (by omega)]
   congr 2
   refine decide_eq_decide.2 ?_
   rw[k4,hmem]
   exact⟨λh=>h.2,λh=>⟨⟨by omega,by omega⟩,h⟩⟩
theorem lG {g:Parity}(hp:parityOk g=true):∀v r,idx g.Arena.Next v=some r->r≠[]:=λv r hr e=>by
 obtain⟨h1,h2,h3,h4,h5⟩:=cU hp
 obtain⟨v0,_⟩:=ck hr
 obtain⟨i,hi⟩:=eN v0
 subst hi
 rw[bG]at hr
 have:=(h5 i r hr).1
 rw[e]at this
 simp at this
end Go.Proofs.YtpcjbkgbnoocaaaGreat
set_option linter.unusedVariables false
set_option linter.unusedSimpArgs false
namespace Go.Proofs.YtpcjbkgbnoocaaaGreat.Par
open Classical
variable {G H:Gm}{X Y C T W W' D:Int->Prop}{p:Bool}{w w':Int->Bool}{k k':Int->Int}
theorem Dom.self (h:Dom G X p D):Dom G D p D:=by
 obtain⟨σ,a1,a2,a3,a4⟩:=h
 exact⟨σ,λv hv=>hv,a2,λv u _ _ _ hu=>hu,a4⟩
theorem Dom.congrG (h:Dom G X p D) (ho:∀v,D v->H.own v=G.own v) (hp:∀v,D v->H.pri v=G.pri v) (hE:∀v u,D v->(H.E v u↔G.E v u)):Dom H X p D:=by
 obtain⟨σ,a1,a2,a3,a4⟩:=h
 refine⟨σ,a1,λv hv hq=>?_,λv u hv hq he hx=>?_,λπ hπ=>?_⟩
 · rw[ho v hv]at hq
   have:=a2 v hv hq
   exact⟨(hE v _ hv).2 this.1,this.2⟩
 · rw[ho v hv]at hq
   exact a3 v u hv hq ((hE v u hv).1 he) hx
 · have hp':Play G p D σ π:=λn=>by
    obtain⟨b1,b2,b3⟩:=hπ n
    exact⟨b1,(hE _ _ b1).1 b2,λhq=>b3 (by rw[ho _ b1];exact hq)⟩
   obtain⟨d,c1,c2,N,c3⟩:=a4 π hp'
   have e:∀n,H.pri (π n)=G.pri (π n):=λn=>hp _ (hπ n).1
   exact⟨d,c1,λM=>by obtain⟨n,k1,k2⟩:=c2 M;exact⟨n,k1,by rw[e];exact k2⟩,N,λn hn=>by rw[e];exact c3 n hn⟩
theorem Sol.congrG (h:Sol G X p W) (ho:∀v,X v->H.own v=G.own v) (hp:∀v,X v->H.pri v=G.pri v) (hE:∀v u,X v->(H.E v u↔G.E v u)):Sol H X p W:=
 ⟨h.sub,h.mine.congrG (λv hv=>ho v (h.sub v hv)) (λv hv=>hp v (h.sub v hv)) (λv u hv=>hE v u (h.sub v hv)),
  h.yours.congrG (λv hv=>ho v hv.1) (λv hv=>hp v hv.1) (λv u hv=>hE v u hv.1)⟩
theorem hold_iff {R:Int->Prop}{q:Bool}(hs:Sol G Y false R):(∀x,Y x->(R x↔q=false))↔Dom G Y q Y:=by
 constructor
 · intro h
   cases q with
   | false=>exact hs.mine.congr λv=>⟨hs.sub v,λhv=>(h v hv).2 rfl⟩
   | true=>exact hs.yours.congr λv=>⟨λhv=>hv.1,λhv=>⟨hv,λhr=>absurd ((h v hv).1 hr) (by decide)⟩⟩
 · intro h x hx
   have:=hs.uniq ((Sol.all h).asP false) x
   rw[this]
   exact⟨λh=>(h.2.1 hx).symm,λe=>⟨hx,λ_=>e.symm,λ_=>hx⟩⟩
def pickG (G:Gm) (k:Int->Int):Gm:=⟨G.own,G.pri,λv u=>G.E v u/\(k v<0\/k v=u)⟩
def Rg (X:Int->Prop) (w:Int->Bool) (q:Bool):Int->Prop:=λv=>X v/\w v=q
def updF (k:Int->Int) (v u:Int):Int->Int:=λx=>if x=v then u else k x
structure PInv (G:Gm) (X:Int->Prop) (w:Int->Bool) (k:Int->Int):Prop where
 pick:∀v,0<=k v->X v/\G.own v=w v/\G.E v (k v)/\X (k v)/\w (k v)=w v
 dom:∀q,Dom (pickG G k) (Rg X w q) q (Rg X w q)
 yours:∀v u,X v->¬G.own v=w v->G.E v u->X u->w u=w v
theorem Sol.rg (h:Sol G X false W) (hw:∀v,X v->(w v=false↔W v)) (q:Bool):Dom G X q (Rg X w q):=by
 cases q with
 | false=>exact h.mine.congr λv=>⟨λhv=>⟨h.sub v hv,(hw v (h.sub v hv)).2 hv⟩,λhv=>(hw v hv.1).1 hv.2⟩
 | true=>exact h.yours.congr λv=>⟨λhv=>⟨hv.1,by
  cases e:w v with
  | true=>rfl
  | false=>exact absurd ((hw v hv.1).1 e) hv.2⟩,λhv=>⟨hv.1,λh'=>by
  have:=(hw v hv.1).2 h'
  rw[hv.2]at this
  cases this⟩⟩
theorem PInv.start (h:Sol G X false W) (hw:∀v,X v->(w v=false↔W v)) (hk:∀v,k v<0):PInv G X w k:=by
 refine⟨λv hv=>absurd (hk v) (by omega),λq=>((h.rg hw q).self).congrG (λ_ _=>rfl) (λ_ _=>rfl) λv u _=>⟨λh=>h.1,λh=>⟨h,.inl (hk v)⟩⟩,λv u hv ho he hu=>?_⟩
 obtain⟨σ,a1,a2,a3,a4⟩:=h.rg hw (w v)
 exact(a3 v u ⟨hv,rfl⟩ ho he hu).2
theorem PInv.ex (hI:PInv G X w k){v:Int}(hv:X v) (ho:G.own v=w v) (hk:k v<0):∃u,G.E v u/\X u/\w u=w v/\Dom (pickG G (updF k v u)) (Rg X w (w v)) (w v) (Rg X w (w v)):=by
 obtain⟨σ,a1,a2,a3,a4⟩:=hI.dom (w v)
 obtain⟨⟨e1,_⟩,e2,e3⟩:=a2 v ⟨hv,rfl⟩ ho
 refine⟨σ v,e1,e2,e3,σ,a1,λx hx hq=>?_,λx y hx hq he hy=>hy,λπ hπ=>a4 π λn=>?_⟩
 · obtain⟨⟨b1,b2⟩,b3⟩:=a2 x hx hq
   refine⟨⟨b1,?_⟩,b3⟩
   unfold updF
   by_cases e:x=v
   · rw[if_pos e,e];exact .inr rfl
   · rw[if_neg e];exact b2
 · obtain⟨b1,⟨b2,b3⟩,b4⟩:=hπ n
   refine⟨b1,⟨b2,?_⟩,b4⟩
   unfold updF at b3
   by_cases e:π n=v
   · rw[e];exact .inl hk
   · rwa [if_neg e]at b3
theorem PInv.step (hI:PInv G X w k){v u:Int}(hv:X v) (ho:G.own v=w v) (h1:G.E v u) (h2:X u) (h3:w u=w v) (hd:Dom (pickG G (updF k v u)) (Rg X w (w v)) (w v) (Rg X w (w v))):PInv G X w (updF k v u):=by
 refine⟨λx hx=>?_,λq=>?_,hI.yours⟩
 · by_cases e:x=v
   · subst e
     have:updF k x u x=u:=if_pos rfl
     rw[this];exact⟨hv,ho,h1,h2,h3⟩
   · have:updF k v u x=k x:=if_neg e
     rw[this]at hx ⊢;exact hI.pick x hx
 · by_cases e:q=w v
   · subst e;exact hd
   · refine(hI.dom q).congrG (λ_ _=>rfl) (λ_ _=>rfl) λx y hx=>?_
     have:x≠v:=λe'=>e (by rw[← hx.2,e'])
     have:updF k v u x=k x:=if_neg this
     show _/\_↔_/\_
     rw[this]
theorem PInv.noDead (hI:PInv G X w k) (hN:NoDead G X){v u:Int}(h1:G.E v u) (h2:X u) (h3:w u=w v) (q:Bool):NoDead (pickG G (updF k v u)) (Rg X w q):=λx ⟨hx,hq⟩=>by
 by_cases e:x=v
 · subst e;exact⟨u,⟨h1,.inr (if_pos rfl)⟩,h2,by rw[h3,hq]⟩
 · have e':updF k v u x=k x:=if_neg e
   by_cases ho:G.own x=w x
   · obtain⟨σ,_,a2,_⟩:=hI.dom q
     obtain⟨⟨b1,b2⟩,b3⟩:=a2 x ⟨hx,hq⟩ (by show G.own x=q;rw[ho,hq])
     exact⟨σ x,⟨b1,by rw[e'];exact b2⟩,b3⟩
   · obtain⟨y,c1,c2⟩:=hN x hx
     refine⟨y,⟨c1,.inl ?_⟩,c2,by rw[hI.yours x y hx ho c1 c2,hq]⟩
     rw[e']
     apply Classical.byContradiction
     intro hn
     exact ho (hI.pick x (by omega)).2.1
inductive Rch (H:Gm) (Y:Int->Prop):Int->Int->Prop
 | refl {v:Int}:Y v->Rch H Y v v
 | step {v u x:Int}:Y v->H.E v u->Rch H Y u x->Rch H Y v x
def Loop (H:Gm) (Y:Int->Prop) (v:Int):Prop:=∃u,H.E v u/\Rch H Y u v
theorem Rch.fst {v x:Int}(h:Rch H Y v x):Y v:=by cases h <;> assumption
theorem Rch.lst {v x:Int}(h:Rch H Y v x):Y x:=by induction h with
 | refl h=>exact h
 | step _ _ _ ih=>exact ih
theorem Rch.snoc {v x y:Int}(h:Rch H Y v x) (he:H.E x y) (hy:Y y):Rch H Y v y:=by induction h with
 | refl h=>exact .step h he (.refl hy)
 | step h1 h2 _ ih=>exact .step h1 h2 (ih he)
theorem Rch.mono {H':Gm}{Y':Int->Prop}{v x:Int}(h:Rch H Y v x) (hy:∀a,Y a->Y' a) (he:∀a b,Y a->Y b->H.E a b->H'.E a b):Rch H' Y' v x:=by induction h with
 | refl h=>exact .refl (hy _ h)
 | step h1 h2 h3 ih=>exact .step (hy _ h1) (he _ _ h1 h3.fst h2) ih
theorem Loop.mono {H':Gm}{Y':Int->Prop}{v:Int}(h:Loop H Y v) (hy:∀a,Y a->Y' a) (he:∀a b,Y a->Y b->H.E a b->H'.E a b):Loop H' Y' v:=by
 obtain⟨u,h1,h2⟩:=h
 exact⟨u,he v u h2.lst h2.fst h1,h2.mono hy he⟩
theorem Rch.path {v x:Int}(h:Rch H Y v x):∃(m:Nat) (f:Nat->Int),f 0=v/\f m=x/\(∀i,i<m->H.E (f i) (f (i+1)))/\∀i,i<=m->Y (f i):=by induction h with
 | @refl v h=>exact⟨0,λ_=>v,rfl,rfl,λi hi=>absurd hi (Nat.not_lt_zero i),λ_ _=>h⟩
 | @step v u x h1 h2 _ ih=>
  obtain⟨m,f,a1,a2,a3,a4⟩:=ih
  refine⟨m+1,λi=>match i with | 0=>v | i+1=>f i,rfl,a2,λi hi=>?_,λi hi=>?_⟩
  · cases i with
    | zero=>show H.E v (f 0);rw[a1];exact h2
    | succ i=>exact a3 i (by omega)
  · cases i with
    | zero=>exact h1
    | succ i=>exact a4 i (by omega)
theorem Rch.ofPath {f:Nat->Int}(he:∀i,H.E (f i) (f (i+1))){a:Nat}(hy:∀i,a<=i->Y (f i)) (m:Nat):Rch H Y (f a) (f (a+m)):=by induction m with
 | zero=>exact .refl (hy a (by omega))
 | succ m ih=>exact ih.snoc (he _) (hy _ (by omega))
def Io (S:Nat->Prop):Prop:=∀N,∃m,N<=m/\S m
theorem Io.val {f:Nat->Int}:∀(n:Nat){S:Nat->Prop},Io S->(∀m,S m->0<=f m/\f m<n)->∃v,Io λm=>S m/\f m=v:=by
 intro n
 induction n with
 | zero=>
  intro S hS hb
  obtain⟨m,_,hm⟩:=hS 0
  have:=hb m hm
  omega
 | succ n ih=>
  intro S hS hb
  by_cases h:Io λm=>S m/\f m=(n:Int)
  · exact⟨n,h⟩
  · obtain⟨N,hN⟩:=Classical.not_forall.1 h
    obtain⟨v,hv⟩:=ih (S:=λm=>S m/\N<=m) (λM=>by
     obtain⟨m,h1,h2⟩:=hS (max M N)
     exact⟨m,by omega,h2,by omega⟩) (λm hm=>by
     have:=hb m hm.1
     have:¬f m=(n:Int):=λe=>hN ⟨m,hm.2,hm.1,e⟩
     omega)
    exact⟨v,λM=>by
     obtain⟨m,h1,h2,h3⟩:=hv M
     exact⟨m,h1,h2.1,h3⟩⟩
theorem uH {f:Nat->Int}:∀(b:Nat) (N:Nat),(∀m,N<=m->0<=f m/\f m<b)->∃d,(∀N,∃n,N<=n/\f n=d)/\∃N,∀n,N<=n->f n<=d:=by
 intro b
 induction b with
 | zero=>
  intro N h
  have:=h N (by omega)
  omega
 | succ b ih=>
  intro N h
  by_cases h':∀N,∃n,N<=n/\f n=(b:Int)
  · exact⟨b,h',N,λn hn=>by have:=h n hn;omega⟩
  · obtain⟨M,hM⟩:=Classical.not_forall.1 h'
    refine ih (max N M) λm hm=>?_
    have:=h m (by omega)
    have:¬f m=(b:Int):=λe=>hM ⟨m,by omega,e⟩
    omega
structure Ans (G:Gm) (X:Int->Prop) (w:Int->Bool) (k:Int->Int):Prop where
 mine:∀v,X v->G.own v=w v->0<=k v/\G.E v (k v)/\X (k v)/\w (k v)=w v
 free:∀v,X v->¬G.own v=w v->k v<0
 yours:∀v u,X v->¬G.own v=w v->G.E v u->X u->w u=w v
 noloop:∀v,X v->¬oddP (G.pri v)=w v->¬Loop (pickG G k) (λx=>Rg X w (w v) x/\G.pri x<=G.pri v) v
theorem Ans.dom (h:Ans G X w k){n b:Nat}(hX:∀v,X v->0<=v/\v<n) (hp:∀v,X v->0<=G.pri v/\G.pri v<b) (q:Bool):Dom G X q (Rg X w q):=by
 refine⟨k,λv hv=>hv.1,λv hv ho=>?_,λv u hv ho he hx=>⟨hx,?_⟩,λπ hπ=>?_⟩
 · obtain⟨a1,a2,a3,a4⟩:=h.mine v hv.1 (by rw[ho,hv.2])
   exact⟨a2,a3,by rw[a4,hv.2]⟩
 · rw[h.yours v u hv.1 (by rw[hv.2];exact ho) he hx,hv.2]
 · obtain⟨d,d1,N,d2⟩:=uH (f:=λn=>G.pri (π n)) b 0 λm _=>hp _ (hπ m).1.1
   refine⟨d,?_,d1,N,d2⟩
   apply Classical.byContradiction
   intro hd
   obtain⟨v,hv⟩:=Io.val (f:=π) n (S:=λm=>N<=m/\G.pri (π m)=d) (λM=>by
    obtain⟨m,h1,h2⟩:=d1 (max M N)
    exact⟨m,by omega,by omega,h2⟩) (λm _=>hX _ (hπ m).1.1)
   obtain⟨m1,_,⟨c1,c2⟩,c3⟩:=hv 0
   obtain⟨m2,c4,_,c6⟩:=hv (m1+1)
   have c2:G.pri (π m1)=d:=c2
   rw[c3]at c2
   have hv1:Rg X w q v:=by rw[← c3];exact(hπ m1).1
   have hE:∀i,(pickG G k).E (π i) (π (i+1)):=λi=>by
    obtain⟨b1,b2,b3⟩:=hπ i
    refine⟨b2,?_⟩
    by_cases ho:G.own (π i)=q
    · exact .inr (b3 ho).symm
    · exact .inl (h.free _ b1.1 (by rw[b1.2];exact ho))
   have hr:=Rch.ofPath (H:=pickG G k) (Y:=λx=>Rg X w (w v) x/\G.pri x<=G.pri v) (f:=π) hE (a:=m1+1) (λi hi=>⟨by rw[hv1.2];exact(hπ i).1,by rw[c2];exact d2 i (by omega)⟩) (m2-(m1+1))
   rw[show m1+1+(m2-(m1+1))=m2 from by omega,c6]at hr
   refine h.noloop v hv1.1 (by rw[hv1.2,c2];exact hd) ⟨π (m1+1),?_,hr⟩
   have:=hE m1
   rwa [c3]at this
theorem Ans.sol (h:Ans G X w k){n b:Nat}(hX:∀v,X v->0<=v/\v<n) (hp:∀v,X v->0<=G.pri v/\G.pri v<b):Sol G X false (Rg X w false):=by
 refine⟨λv hv=>hv.1,h.dom hX hp false,(h.dom hX hp true).congr λv=>?_⟩
 constructor
 · rintro⟨h1,h2⟩
   exact⟨h1,λh'=>absurd (h2.symm.trans h'.2) (by decide)⟩
 · rintro⟨h1,h2⟩
   refine⟨h1,?_⟩
   cases e:w v with
   | true=>rfl
   | false=>exact absurd ⟨h1,e⟩ h2
theorem PInv.ans (hI:PInv G X w k) (hk:∀v,X v->G.own v=w v->0<=k v):Ans G X w k:=by
 refine⟨λv hv ho=>⟨hk v hv ho,(hI.pick v (hk v hv ho)).2.2⟩,λv hv ho=>?_,hI.yours,λv hv ho hl=>?_⟩
 · apply Classical.byContradiction
   intro hn
   exact ho (hI.pick v (by omega)).2.1
 · obtain⟨σ,a1,a2,a3,a4⟩:=hI.dom (w v)
   obtain⟨u,he,hr⟩:=hl
   obtain⟨m,f,f0,fm,fe,fy⟩:=(Rch.step hr.lst he hr).path
   -- the loop has at least one step
   have hm:0<m\/True:= .inr trivial
   obtain⟨m',g,g0,gm,ge,gy⟩:=hr.path
   let π:Nat->Int:=λi=>if i % (m'+1)=0 then v else g (i % (m'+1)-1)
   have p0:∀i,i % (m'+1)=0->π i=v:=λi hi=>if_pos hi
   have p1:∀i,i % (m'+1)≠0->π i=g (i % (m'+1)-1):=λi hi=>if_neg hi
   have hY:∀i,Rg X w (w v) (π i)/\G.pri (π i)<=G.pri v:=λi=>by
    by_cases e:i % (m'+1)=0
    · rw[p0 i e];exact hr.lst
    · rw[p1 i e]
      exact gy _ (by have:=Nat.mod_lt i (show 0<m'+1 by omega);omega)
   have hE:∀i,(pickG G k).E (π i) (π (i+1)):=λi=>by
    have hlt:=Nat.mod_lt i (show 0<m'+1 by omega)
    have hs:(i+1) % (m'+1)=if i % (m'+1)=m' then 0 else i % (m'+1)+1:=by
     rw[Nat.add_mod]
     by_cases e:i % (m'+1)=m'
     · rw[if_pos e,e]
       cases m' with
       | zero=>simp
       | succ m'=>rw[Nat.mod_eq_of_lt (show 1<m'+1+1 by omega),Nat.mod_self]
     · rw[if_neg e,Nat.mod_eq_of_lt (show 1<m'+1 by omega),Nat.mod_eq_of_lt (by omega)]
    by_cases e:i % (m'+1)=m'
    · rw[if_pos e]at hs
      rw[p0 (i+1) hs]
      by_cases e0:i % (m'+1)=0
      · rw[p0 i e0]
        have:m'=0:=by omega
        subst this
        rw[← gm,g0]at he ⊢
        rw[g0]at gm
        rw[← gm]at *
        exact he
      · rw[p1 i e0,e,← gm]
        have:=ge (m'-1) (by omega)
        rwa [show m'-1+1=m' from by omega]at this
    · rw[if_neg e]at hs
      rw[p1 (i+1) (by omega),hs]
      by_cases e0:i % (m'+1)=0
      · rw[p0 i e0,e0,Nat.zero_add,Nat.sub_self,g0];exact he
      · rw[p1 i e0]
        have:=ge (i % (m'+1)-1) (by omega)
        rwa [show i % (m'+1)-1+1=i % (m'+1)+1-1 from by omega]at this
   have hπ:Play (pickG G k) (w v) (Rg X w (w v)) σ π:=λi=>by
    refine⟨(hY i).1,hE i,λhq=>?_⟩
    have ho:G.own (π i)=w (π i):=by rw[(hY i).1.2];exact hq
    have h0:=hk _ (hY i).1.1 ho
    have e1:=(hE i).2.resolve_left (by omega)
    have e2:=(a2 _ (hY i).1 hq).1.2.resolve_left (by omega)
    rw[← e1,← e2]
   obtain⟨d,d1,d2,N,d3⟩:=a4 π hπ
   obtain⟨i,i1,i2⟩:=d2 N
   have j1:=(hY i).2
   have j2:=d3 ((m'+1) * N) (by
    have:=Nat.le_mul_of_pos_left N (show 0<m'+1 by omega)
    exact this)
   rw[p0 _ (Nat.mul_mod_right _ _)]at j2
   have i2:G.pri (π i)=d:=i2
   have j2:G.pri v<=d:=j2
   have:d=G.pri v:=by omega
   rw[this]at d1
   exact ho d1
end Go.Proofs.YtpcjbkgbnoocaaaGreat.Par
