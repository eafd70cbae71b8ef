/- The reference's attractor. -/
import Derived.Test.YtldlmopdhmaceaaGreatDoorL0BE
set_option linter.unusedVariables false
set_option linter.unusedSimpArgs false
open Bool renaming eq_iff_iff → F6, not_false → GB, not_true → F7, or_eq_true → GC
open Classical renaming byContradiction → F9, not_forall → GD
open Int renaming ofNat → GE
open Go.IntKind renaming wrap → FW
open List renaming ext_getElem? → Fv, filter_append → GF, filter_cons → Ge, getElem?_eq_getElem → ct, getElem?_eq_none → GG, getElem?_eq_some_iff → C7, getElem?_replicate → GH, length_append → C9, length_cons → E1, length_eq_zero_iff → GI, length_filter_le → GJ, length_map → Gg, length_nil → Gh, length_range → GK, length_take → FE, map_append → FF, mem_append → E4, mem_append_left → GL, mem_cons → E5, mem_cons_self → Gi, mem_filter → Gj, mem_map → FH, mem_of_getElem? → FI, mem_range → GM, mem_singleton → E7, mem_zipIdx_iff_getElem? → Gl, nodup_append → Gq, nodup_cons → GN, range → GO, range_succ → GP, replicate → FK, take_add_one → Gv, take_length → Gx, take_of_length_le → FN
open Nat renaming le_trans → GQ, mod_eq_of_lt → GR, not_lt_zero → Gy
open Option renaming bind → FR, bind_some → GA
open Option.some renaming inj → GS
open Go.Proofs.YtldlmopdhmaceaaGreatDoor.Par renaming Mn → GT, NoDead → GU, Sol → GV
namespace Go.Proofs.YtldlmopdhmaceaaGreatDoor
open Go Go.Wk Go.Proofs
structure WfS (x:l7Game) (n:Nat):Prop where
 n256:n<=256
 lo:x.owner.length=n
 lp:x.prio.length=n
 ln:x.next.length=n
 lk:x.pick.length=n
 lv:x.prev.length=n
 ow:∀v o,idx x.owner v=some o->o=0\/o=1
 row:∀v r,idx x.next v=some r->r.length<=16/\r.Nodup/\∀u∈r,0<=u/\u<n
 prev:∀u P,idx x.prev u=some P->P.Nodup/\P.length<=100000/\∀v,v∈P↔∃r,idx x.next v=some r/\u∈r
def okE (k u:Int):Bool:=decide (k<0)||(k==u)
def rowS (x:l7Game) (v:Int):VI:=match idx x.next v,idx x.pick v with
 |some a,some k=>a.filter (okE k)
 |_,_=>[]
def ownL (O:VI) (v:Int):Bool:=match idx O v with
 |some a=>a==1
 |none=>false
def priL (P:VI) (v:Int):Int:=(idx P v).getD 0
theorem tf {x:l7Game}{v k:Int}{r:VI}(b:idx x.next v=some r) (a:idx x.pick v=some k):rowS x v=r.filter (okE k):=by unfold rowS;rw[b,a]
theorem Ca {x:l7Game}{v k:Int}(u:Int) (a:idx x.pick v=some k):oN x v u=some (okE k u):=by
 unfold oN okE
 rw[a,GA]
 cases decide (k<0) <;> simp
theorem Ad {O:VI}{v o:Int}{p:Bool}(h:idx O v=some o) (a:o=0\/o=1):(o==b2i p)=decide (ownL O v=p):=by
 unfold ownL
 rw[h]
 rcases a with rfl|rfl <;> cases p <;> decide
section
variable {x:l7Game}{n:Nat}(wf:WfS x n){B:VB}(hB:B.length=n)
include wf
theorem WfS.get {v:Int}(b:0<=v) (e:v<n):∃a k,idx x.next v=some a/\idx x.pick v=some k:=by
 have:=wf.ln
 have:=wf.lk
 obtain⟨a,d⟩:=cI (xs:=x.next) b (by omega)
 obtain⟨k,c⟩:=cI (xs:=x.pick) b (by omega)
 exact⟨a,k,d,c⟩
theorem wM (v:Int):(rowS x v).Nodup/\(rowS x v).length<=16/\∀a∈rowS x v,0<=a/\a<n:=by
 unfold rowS
 cases e:idx x.next v with
 |none=>simp
 |some g=>
  cases i:idx x.pick v with
  |none=>simp
  |some k=>
   obtain⟨b,c,d⟩:=wf.row v g e
   exact⟨c.filter _,GQ (GJ _ _) b,λa f=>d a (Gj.1 f).1⟩
include hB
omit wf in
theorem oa {v:Int}(h:In B v):0<=v/\v<n:=by
 have:=cO h
 rw[hB]at this
 exact this
theorem yn {v:Int}(q:0<=v) (r:v<n):jA x B v=some (lf (rowS x v) (In B) (λ_=>False):Int):=by
 classical
 obtain⟨c,k,i,m⟩:=wf.get q r
 obtain⟨F,G,y⟩:=wf.row v c i
 let g:Int->Bool:=λa=>decide (In B a)&&okE k a
 unfold jA
 obtain⟨w,A,C⟩:=cZ (f:=jZ x B v) (λb (d:Int×Int)=>d=((((c.take b).filter g).length:Int),(b:Int))/\b<=c.length) (λ_=>False) (λd=>d.1=((c.filter g).length:Int)) c.length (λb d ⟨u,D⟩=>by
  subst u
  unfold jZ
  rw[i,GA]
  dsimp only
  by_cases o:(b:Int)<(c.length:Int)
  .have e:c[b]? =some c[b]:=ct (by omega)
   generalize c[b]=a at e
   obtain⟨z,H⟩:=y a (FI e)
   obtain⟨j,l⟩:=cI (xs:=B) z (by omega)
   have E:((c.take b).filter g).length<=b:=GQ (GJ _ _) (by rw[FE];omega)
   simp only[o,decide_true,cond_true,GA,bT,e,l,Ca a m,andE]
   have t:(j&&okE k a)=g a:=by
    show _=(decide (In B a)&&okE k a)
    congr 1
    unfold In;rw[l];cases j <;> simp
   rw[t]
   have p:(c.take (b+1)).filter g=(c.take b).filter g++(if g a then[a] else[]):=by
    rw[Gv,e,GF];congr 1
    cases h:g a <;> simp[h]
   rw[wr' (by omega) (by omega),wr' (by omega) (by omega)]
   cases h:g a with
   |true=>exact⟨_,rfl,by omega,by rw[p,h];simp,by omega⟩
   |false=>exact⟨_,rfl,by omega,by rw[p,h];simp,by omega⟩
  .simp only[o,decide_false,cond_false]
   refine⟨_,rfl,?_⟩
   dsimp only
   rw[FN (by omega)]) (2 ^ 64) 0 (0,0) (by omega) ⟨by simp,by omega⟩ (by omega)
 match w,C with
 |.inr d,s=>
  rw[A,GA,bV,s,tf i m]
  unfold lf
  rw[List.filter_filter]
  congr 3
  apply List.filter_congr
  intro a _
  show(decide (In B a)&&okE k a)=_
  simp
theorem yv {E:Int->Prop}{p:Bool}{T L Q:VI}{u v:Int}{out:VB}{left:VI}(l:Mid (rowS x) (ownL x.owner) (In B) p E T u L Q) (ac:v∉L)
 {P:VI} {j:Nat} (G:idx x.prev u=some P) (C:P[j]? =some v) (ak:Q.length<=100000)
 (q:out.length=n/\∀v:Int,0<=v->v<n->idx out v=some (decide (v∈Q))) (o:left.length=n/\∀v,In B v->v∉Q->idx left v=some (lf (rowS x v) (In B) (dn T u L v):Int)):
 ∃Q' s f,eP x B (b2i p) u (Q,(j:Int),out,left)=some (.inr (.inr (Q',((j+1:Nat):Int),s,f)))/\Mid (rowS x) (ownL x.owner) (In B) p E T u (L++[v]) Q' /\
  (s.length=n/\∀v:Int,0<=v->v<n->idx s v=some (decide (v∈Q')))/\(f.length=n/\∀w,In B w->w∉Q'->idx f w=some (lf (rowS x w) (In B) (dn T u (L++[v]) w):Int))/\(∀v∈Q,v∈Q'):=by
 have an:=wf.n256
 obtain⟨aq,ar,ag⟩:=wf.prev u P G
 obtain⟨au,R,ab⟩:=(ag v).1 (FI C)
 obtain⟨g,t⟩:=cO R
 rw[wf.ln]at t
 obtain⟨k,N⟩:=cI (xs:=x.pick) g (by rw[wf.lk];exact t)
 obtain⟨V,z⟩:=cI (xs:=B) g (by omega)
 obtain⟨w,c⟩:=cI (xs:=x.owner) g (by rw[wf.lo];exact t)
 have Y:(j:Int)<(P.length:Int):=by have:=(C7.1 C).1;omega
 have ad:FW .i64 ((j:Int)+1)=((j+1:Nat):Int):=by rw[wr' (by omega) (by omega)];omega
 unfold eP
 rw[G,GA]
 dsimp only
 simp only[Y,decide_true,cond_true,GA,bT,C,z,q.2 v g t,Ca u N,orE,ad]
 have K:u∈rowS x v↔okE k u=true:=by rw[tf R N,Gj];exact⟨λh=>h.2,λh=>⟨ab,h⟩⟩
 have I:∀w,w≠v->lf (rowS x w) (In B) (dn T u (L++[v]) w)=lf (rowS x w) (In B) (dn T u L w):=λw c=>fu λa _ _=>g9 c
 by_cases m:((!V||decide (v∈Q)) || !okE k u)=true
 .rw[m,cond_true]
  have H:¬In B v\/v∈Q\/u∉rowS x v:=by
   simp only[GC,Bool.not_eq_true',decide_eq_true_eq]at m
   rcases m with (h|h)|h
   .left;unfold In;rw[z,h];simp
   .exact .inr (.inl h)
   .right;right;rw[K,h];simp
  refine⟨Q,out,left,rfl,l.skip H,q,⟨o.1,λa U e=>?_⟩,λ_ h=>h⟩
  rw[o.2 a U e]
  by_cases b:a=v
  .subst b
   have r:u∉rowS x a:=by
    rcases H with h|h|h
    .exact absurd U h
    .exact absurd h e
    .exact h
   congr 2
   exact fu λaj af _=>by
    have:aj≠u:=λb=>r (b ▸ af)
    unfold dn;simp[this]
  .rw[I a b]
 .simp only[Bool.not_eq_true,Bool.or_eq_false_iff,Bool.not_eq_false',decide_eq_false_iff_not]at m
  obtain⟨⟨W,y⟩,F⟩:=m
  subst W
  have M:In B v:=z
  have r:u∈rowS x v:=K.2 F
  have Z:=o.2 v M y
  have al:lf (rowS x v) (In B) (λa=>a∈T\/a=u)+1=lf (rowS x v) (In B) (dn T u L v):=by
   rw[wv (wM wf v).1 r l.u_in.2.2 l.u_in.2.1]
   exact fu λa _ _=>(mE ac).symm
  have am:lf (rowS x v) (In B) (dn T u L v)<=16:=GQ BC (wM wf v).2.1
  obtain⟨f,D,ao⟩:=cY (xs:=left) (i:=v) (lf (rowS x v) (In B) (λa=>a∈T\/a=u):Int) g (by omega)
  have ae:FW .i64 ((lf (rowS x v) (In B) (dn T u L v):Int)-1)=(lf (rowS x v) (In B) (λa=>a∈T\/a=u):Int):=by rw[wr' (by omega) (by omega)];omega
  have aa:idx f v=some (lf (rowS x v) (In B) (λa=>a∈T\/a=u):Int):=by rw[de D,if_pos rfl]
  have O:∀w,In B w->w∉Q->idx f w=some (lf (rowS x w) (In B) (dn T u (L++[v]) w):Int):=λw c e=>by
   rw[de D]
   by_cases b:w=v
   .subst b
    rw[if_pos rfl]
    congr 2
    exact fu λa _ _=>vW.symm
   .rw[if_neg b,o.2 w c e,I w b]
  have X:((lf (rowS x v) (In B) (λa=>a∈T\/a=u):Int)==0)=decide (lf (rowS x v) (In B) (λa=>a∈T\/a=u)=0):=by
   rw[F6];simp
  simp only[y,F,decide_false,F7,Bool.or_false,cond_false,Z,GA,ae,D,c,Ad c (wf.ow v w c),aa,X,orE]
  by_cases d:ownL x.owner v=p\/lf (rowS x v) (In B) (λa=>a∈T\/a=u)=0
  .have A:(decide (ownL x.owner v=p)||decide (lf (rowS x v) (In B) (λa=>a∈T\/a=u)=0))=true:=by simpa using d
   obtain⟨s,S,ap⟩:=cY (xs:=out) (i:=v) true g (by omega)
   simp only[A,cond_true,S,GA,app1 (show Q.length<=10000000000 by omega) (show Nat.ble 8 1024=true from rfl)]
   refine⟨_,_,_,rfl,l.add M y r d,⟨by omega,λa ah ai=>?_⟩,⟨by omega,λw c e=>O w c λh=>e (GL _ h)⟩,λ_ h=>GL _ h⟩
   rw[de S]
   by_cases b:a=v
   .subst b;simp
   .rw[if_neg b,q.2 a ah ai];simp[b]
  .have A:(decide (ownL x.owner v=p)||decide (lf (rowS x v) (In B) (λa=>a∈T\/a=u)=0))=false:=by simpa using d
   rw[not_or]at d
   simp only[A,cond_false,GA]
   exact⟨_,_,_,rfl,l.stay d.1 d.2,q,⟨by omega,O⟩,λ_ h=>h⟩
end
def gS (x:l7Game):Par.Gm:=mkG (rowS x) (ownL x.owner) (priL x.prio)
theorem jp {α:Type}{xs:List α}{j:Nat}{y:α}(h:xs[j]? =some y):xs.take (j+1)=xs.take j++[y]:=by rw[Gv,h];rfl
theorem ua {xs:VI}{j:Nat}{y:Int}(c:xs.Nodup) (h:xs[j]? =some y):y∉xs.take j:=by
 have a:=c.sublist (List.take_sublist (j+1) xs)
 rw[jp h,Gq]at a
 exact λb=>a.2.2 y b y (by simp) rfl
section
variable {x:l7Game}{n:Nat}(wf:WfS x n){B:VB}(hB:B.length=n)
include wf hB
omit wf in
theorem xu {p:Bool}{a:Int->Prop}{Q:VI}(h:Cert (rowS x) (ownL x.owner) (In B) p a Q):Q.length<=n:=ez n Q h.nd λc b=>oa hB (h.mem c b)
theorem zr {o:VB}(af:o.length=n){p:Bool}(T:GU (gS x) (In B)):∃Q out left,cntM (gC x B o) B.length 0 ([],FK n false,FK n 0)=some (.inr (Q,out,left)) /\
 Cert (rowS x) (ownL x.owner) (In B) p (In o) Q/\(∀a,In B a->In o a->a∈Q)/\Trap (rowS x) (ownL x.owner) (In B) p Q (λ_ v=>v∈([]:VI)) /\
 (out.length=n/\∀a:Int,0<=a->a<n->idx out a=some (decide (a∈Q)))/\(left.length=n/\∀w,In B w->w∉Q->idx left w=some (lf (rowS x w) (In B) (λv=>v∈([]:VI)):Int)):=by
 have aj:=wf.n256
 obtain⟨e,z,j⟩:=cg (f:=gC x B o) (λb (e:VI×VB×VI)=>e.1.Nodup/\(∀a,a∈e.1↔a<(b:Int)/\In B a/\In o a) /\
  (e.2.1.length=n/\∀a:Int,0<=a->a<n->idx e.2.1 a=some (decide (a∈e.1)))/\(e.2.2.length=n/\∀w:Int,w<(b:Int)->In B w->idx e.2.2 w=some (lf (rowS x w) (In B) (λ_=>False):Int))) B.length (s:=([],FK n false,FK n 0))
  ⟨by simp,λa=>⟨λh=>by simp at h,λ⟨h,l,_⟩=>by have:=(oa hB l).1;omega⟩,⟨by simp,λa I P=>by
   rw[cN I,GH,if_pos (by omega)];simp⟩,⟨by simp,λw C l=>by have:=(oa hB l).1;omega⟩⟩ (λb e W ⟨u,m,t,s⟩=>by
  obtain⟨Q,out,left⟩:=e
  dsimp only at u m t s
  rw[hB]at W
  obtain⟨q,l⟩:=cI (xs:=B) (i:=(b:Int)) (by omega) (by omega)
  obtain⟨g,E⟩:=cI (xs:=o) (i:=(b:Int)) (by omega) (by omega)
  have ah:Q.length<=n:=ez n Q u λa A=>oa hB ((m a).1 A).2.1
  have X:(b:Int)∉Q:=λh=>by have:=((m _).1 h).1;omega
  have ai:=BC (row:=rowS x (b:Int)) (inn:=In B) (d:=λ_=>False)
  have ag:=(wM wf (b:Int)).2.1
  obtain⟨ab,N,al⟩:=cY (xs:=left) (i:=(b:Int)) (lf (rowS x (b:Int)) (In B) (λ_=>False):Int) (by omega) (by omega)
  obtain⟨ao,O,am⟩:=cY (xs:=out) (i:=(b:Int)) true (by omega) (by omega)
  obtain⟨an,Z⟩:=cI (xs:=left) (i:=(b:Int)) (by omega) (by omega)
  unfold gC
  dsimp only
  simp only[l,GA,E,andE,yn wf hB (show 0<=(b:Int) by omega) (show(b:Int)<n by omega),N,O,Z,t.2 (b:Int) (by omega) (by omega),app1 (show Q.length<=10000000000 by omega) (show Nat.ble 8 1024=true from rfl)]
  have H:∀(G:VI),G=(bif q then ab else left)->(G.length=n/\∀w:Int,w<((b+1:Nat):Int)->In B w->idx G w=some (lf (rowS x w) (In B) (λ_=>False):Int)):=λG c=>by
   subst c
   cases q with
   |true=>
    refine⟨by dsimp only[cond_true];omega,λw C y=>?_⟩
    dsimp only[cond_true]
    rw[de N]
    by_cases c:w=(b:Int)
    .rw[if_pos c,c]
    .rw[if_neg c];exact s.2 w (by omega) y
   |false=>
    refine⟨s.1,λw C y=>?_⟩
    by_cases c:w=(b:Int)
    .subst c;unfold In at y;rw[l]at y;cases y
    .exact s.2 w (by omega) y
  have M:In B (b:Int)↔q=true:=by unfold In;rw[l];simp
  have L:In o (b:Int)↔g=true:=by unfold In;rw[E];simp
  cases D:(q&&g) with
  |true=>
   have U:q=true:=by revert D;cases q <;> simp
   have V:g=true:=by revert D;cases q <;> simp
   subst U V
   simp only[cond_true,GA]
   refine⟨_,rfl,?_,?_,⟨by dsimp only;omega,?_⟩,H _ rfl⟩
   .dsimp only
    rw[Gq]
    exact⟨u,by simp,λad ha ae K=>by simp at K;subst K;exact λc=>X (c ▸ ha)⟩
   .intro a
    dsimp only
    rw[E4,E7,m a]
    constructor
    .rintro(⟨z,j,r⟩|rfl)
     .exact⟨by omega,j,r⟩
     .exact⟨by omega,M.2 rfl,L.2 rfl⟩
    .rintro⟨z,j,r⟩
     by_cases c:a=(b:Int)
     .exact .inr c
     .exact .inl ⟨by omega,j,r⟩
   .intro a I P
    dsimp only
    rw[de O]
    by_cases c:a=(b:Int)
    .subst c;simp
    .rw[if_neg c,t.2 a I P];simp[c]
  |false=>
   have F:∀a,a∈Q↔a<((b+1:Nat):Int)/\In B a/\In o a:=λa=>by
    rw[m a]
    constructor
    .rintro⟨z,j,r⟩;exact⟨by omega,j,r⟩
    .rintro⟨z,j,r⟩
     refine⟨?_,j,r⟩
     have:a≠(b:Int):=λc=>by
      subst c
      rw[M.1 j,L.1 r]at D
      cases D
     omega
   cases q with
   |true=>
    simp only[cond_true,cond_false,GA]
    exact⟨_,rfl,u,F,t,H _ rfl⟩
   |false=>
    simp only[cond_false,GA]
    exact⟨_,rfl,u,F,t,H _ rfl⟩)
 obtain⟨Q,out,left⟩:=e
 obtain⟨u,m,t,s⟩:=j
 dsimp only at u m t s
 have aa:∀w,lf (rowS x w) (In B) (λv=>v∈([]:VI))=lf (rowS x w) (In B) (λ_=>False):=λw=>fu λv _ _=>by simp
 refine⟨Q,out,left,z,⟨u,λa A=>((m a).1 A).2.1,λk a Y=> .inl ((m a).1 (FI Y)).2.2⟩,λa l E=>(m a).2 ⟨by have:=oa hB l;omega,l,E⟩,λa A F=>⟨λ_ v _ _ h=>by simp at h,λak=>?_⟩,t,s.1,λw C F=>?_⟩
 .obtain⟨ac,R,S⟩:=T a A
  exact⟨ac,R,S,by simp⟩
 .rw[aa];exact s.2 w (by have:=oa hB C;omega) C
theorem B9 {g:VB}(ad:g.length=n) (p:Bool) (ae:GU (gS x) (In B)):∃A,j8 x B (b2i p) g=some A/\A.length=n/\Par.IsAttr (gS x) (In B) p (In g) (In A):=by
 have aN:=wf.n256
 obtain⟨Q0,aB,ax,Y,an,ao,ap,aq,ar⟩:=zr wf hB ad (p:=p) ae
 unfold j8
 rw[hB,dq (by omega) rfl,GA,dq (by omega) rfl,GA]
 rw[hB]at Y
 rw[Y,GA,bV]
 dsimp only
 obtain⟨ay,aJ,aK⟩:=cZ (f:=jm x B (b2i p)) (λc (b:VI×Int×VB×VI)=>b.2.1=(c:Int)/\c<=b.1.length/\Cert (rowS x) (ownL x.owner) (In B) p (In g) b.1/\(∀a,In B a->In g a->a∈b.1)/\Trap (rowS x) (ownL x.owner) (In B) p b.1 (λ_ m=>m∈b.1.take c) /\
  (b.2.2.1.length=n/\∀a:Int,0<=a->a<n->idx b.2.2.1 a=some (decide (a∈b.1)))/\(b.2.2.2.length=n/\∀w,In B w->w∉b.1->idx b.2.2.2 w=some (lf (rowS x w) (In B) (λm=>m∈b.1.take c):Int))) (λ_=>False)
  (λb=>∃Q,Cert (rowS x) (ownL x.owner) (In B) p (In g) Q/\(∀a,In B a->In g a->a∈Q)/\Trap (rowS x) (ownL x.owner) (In B) p Q (λ_ m=>m∈Q)/\(b.2.2.1.length=n/\∀a:Int,0<=a->a<n->idx b.2.2.1 a=some (decide (a∈Q)))) n (λc b ⟨S,aa,o,G,t,H,I⟩=>by
  obtain⟨Q,aO,out,left⟩:=b
  dsimp only at S aa o G t H I
  subst S
  have aM:=xu hB o
  unfold jm
  dsimp only
  by_cases W:(c:Int)<(Q.length:Int)
  .have l:c<Q.length:=by omega
   have e:Q[c]? =some Q[c]:=ct l
   have C:Q=Q.take c++Q[c]::Q.drop (c+1):=by rw[← List.drop_eq_getElem_cons l,List.take_append_drop]
   generalize Q[c]=u at e C
   obtain⟨aF,aG⟩:=oa hB (o.mem u (FI e))
   obtain⟨P,M⟩:=cI (xs:=x.prev) aF (by rw[wf.lv];exact aG)
   obtain⟨aC,aR,aD⟩:=wf.prev u P M
   simp only[W,decide_true,cond_true,bT,e,GA]
   have aj:Mid (rowS x) (ownL x.owner) (In B) p (In g) (Q.take c) u [] Q:=by
    have:=Mid.first (T:=Q.take c) (u:=u) (R:=Q.drop (c+1)) (C ▸ o) (C ▸ t)
    rwa [← C]at this
   obtain⟨az,O,aI⟩:=cZ (f:=eP x B (b2i p) u) (λk (b:VI×Int×VB×VI)=>b.2.1=(k:Int)/\k<=P.length/\Mid (rowS x) (ownL x.owner) (In B) p (In g) (Q.take c) u (P.take k) b.1 /\
    (b.2.2.1.length=n/\∀a:Int,0<=a->a<n->idx b.2.2.1 a=some (decide (a∈b.1)))/\(b.2.2.2.length=n/\∀w,In B w->w∉b.1->idx b.2.2.2 w=some (lf (rowS x w) (In B) (dn (Q.take c) u (P.take k) w):Int))/\(∀a∈Q,a∈b.1)) (λ_=>False)
    (λb=>Mid (rowS x) (ownL x.owner) (In B) p (In g) (Q.take c) u P b.1/\(b.2.2.1.length=n/\∀a:Int,0<=a->a<n->idx b.2.2.1 a=some (decide (a∈b.1)))/\(b.2.2.2.length=n/\∀w,In B w->w∉b.1->idx b.2.2.2 w=some (lf (rowS x w) (In B) (dn (Q.take c) u P w):Int))/\(∀a∈Q,a∈b.1)) P.length (λk b ⟨U,ab,q,K,v,L⟩=>by
    obtain⟨Q',am,aA,aw⟩:=b
    dsimp only at U ab q K v L
    subst U
    by_cases D:k<P.length
    .have d:P[k]? =some P[k]:=ct D
     generalize P[k]=a at d
     have aL:=xu hB q.cert
     obtain⟨Q2,aQ,aP,i,y,r,z,ac⟩:=yv wf hB q (ua aC d) M d (by omega) K v
     refine⟨_,i,by omega,rfl,by omega,?_,r,?_,λa d=>ac a (L a d)⟩
     .rw[jp d];exact y
     .rw[jp d];exact z
    .unfold eP
     rw[M,GA]
     have:¬(k:Int)<(P.length:Int):=by omega
     dsimp only
     simp only[this,decide_false,cond_false]
     have j:P.take k=P:=FN (by omega)
     rw[j]at q v
     exact⟨_,rfl,q,K,v,L⟩) (2 ^ 64) 0 (Q,0,out,left) (by omega) ⟨rfl,by omega,by simpa using aj,H,⟨I.1,λw F E=>by
      rw[I.2 w F E]
      congr 2
      exact fu λm _ _=>(mE (by simp)).symm⟩,λ_ h=>h⟩ (by omega)
   match az,aI with
   |.inr b,⟨i,y,r,z⟩=>
    obtain⟨Q',am,aA,aw⟩:=b
    dsimp only at i y r z
    have ak:FW .i64 ((c:Int)+1)=((c+1:Nat):Int):=by rw[wr' (by omega) (by omega)];omega
    rw[O,GA,bV,ak]
    have X:Q'.take (c+1)=Q.take c++[u]:=by
     obtain⟨R,j⟩:=i.hu
     have l:(Q.take c).length=c:=by rw[FE];omega
     rw[j,show Q.take c++u::R=(Q.take c++[u])++R from by simp,List.take_append_of_le_length (by rw[C9,l];simp),FN (by rw[C9,l];simp)]
    have ai:c+1<=Q'.length:=by
     obtain⟨R,j⟩:=i.hu
     have l:(Q.take c).length=c:=by rw[FE];omega
     rw[j,C9,l,E1];omega
    have V:∀a,In B a->u∈rowS x a->a∈P:=λa d e=>by
     rw[aD]
     unfold rowS at e
     cases s:idx x.next a with
     |none=>rw[s]at e;simp at e
     |some aE=>
      cases D:idx x.pick a with
      |none=>rw[s,D]at e;simp at e
      |some k=>rw[s,D]at e;exact⟨aE,rfl,(Gj.1 e).1⟩
    have ah:c<n:=by omega
    refine⟨_,rfl,ah,rfl,ai,i.cert,λa af ag=>z a (G a af ag),?_,y,r.1,λw F E=>?_⟩
    .dsimp only
     rw[X];exact i.last V
    .dsimp only
     dsimp only at E
     rw[r.2 w F E,X]
     congr 2
     exact fu λm al _=>by
      unfold dn
      rw[E4,E7]
      constructor
      .rintro(h|⟨h,_⟩)
       .exact .inl h
       .exact .inr h
      .rintro(h|h)
       .exact .inl h
       .exact .inr ⟨h,V w F (h ▸ al)⟩
  .simp only[W,decide_false,cond_false]
   rw[FN (by omega)]at t
   exact⟨_,rfl,Q,o,G,t,H⟩) (2 ^ 64) 0 (Q0,0,aB,ax) (by omega) ⟨rfl,by omega,an,ao,by simpa using ap,aq,by simpa using ar⟩ (by omega)
 match ay,aK with
 |.inr b,⟨Q,Z,au,av,N⟩=>
  rw[aJ,GA,bV]
  refine⟨_,rfl,N.1,?_⟩
  have ha:=Z.attr (pri:=priL x.prio) au av
  have j:(λa=>a∈Q)=In b.2.2.1:=by
   funext a
   apply propext
   constructor
   .intro d
    obtain⟨aH,O⟩:=oa hB (Z.mem a d)
    unfold In;rw[N.2 a aH O];simp[d]
   .intro d
    have s:=cO d
    unfold In at d
    rw[N.2 a s.1 (by omega)]at d
    simpa using d
  rw[← j];exact ha
end
structure WfI (x:solver) (n:Nat):Prop where
 n256:n<=256
 lo:x.game.Arena.Owner.length=n
 lp:x.game.Prio.length=n
 ln:x.game.Arena.Next.length=n
 lv:x.preds.length=n
 ow:∀v o,idx x.game.Arena.Owner v=some o->o=0\/o=1
 row:∀v r,idx x.game.Arena.Next v=some r->r.length<=16/\r.Nodup/\∀u∈r,0<=u/\u<n
 prev:∀u P,idx x.preds u=some P->P.Nodup/\P.length<=100000/\∀v,v∈P↔∃r,idx x.game.Arena.Next v=some r/\u∈r
def cX (a:Arena) (v:Int):VI:=(idx a.Next v).getD []
def gI (g:Parity):Par.Gm:=mkG (cX g.Arena) (ownL g.Arena.Owner) (priL g.Prio)
theorem dV {a:Arena}{v:Int}{r:VI}(b:idx a.Next v=some r):cX a v=r:=by unfold cX;rw[b];rfl
theorem Ei {O:VI}{v o:Int}{p:Bool}(h:idx O v=some o) (a:o=0\/o=1):(o !=b2i p)=decide (¬ownL O v=p):=by
 have:=Ad (p:=p) h a
 rw[bne,this]
 by_cases h:ownL O v=p <;> simp[h]
section
variable {x:solver}{n:Nat}(wf:WfI x n){B:VB}(hB:B.length=n)
include wf
theorem Am (v:Int):(cX x.game.Arena v).Nodup/\(cX x.game.Arena v).length<=16/\∀a∈cX x.game.Arena v,0<=a/\a<n:=by
 unfold cX
 cases e:idx x.game.Arena.Next v with
 |none=>simp
 |some f=>
  obtain⟨b,c,d⟩:=wf.row v f e
  exact⟨c,b,d⟩
include hB
omit wf in
theorem sU {v:Int}(h:In B v):0<=v/\v<n:=by
 have:=cO h
 rw[hB]at this
 exact this
theorem CG {v:Int}{r left:VI}(A:idx x.game.Arena.Next v=some r) (z:left.length=n) (m:idx left v=some 0):∃j,cntM (dA B v r) r.length 0 left=some (.inr j)/\j.length=n /\
 idx j v=some (lf r (In B) (λ_=>False):Int)/\∀w,w≠v->idx j w=idx left w:=by
 classical
 obtain⟨I,K,D⟩:=wf.row v r A
 have H:=cO m
 obtain⟨c,u,e⟩:=cg (f:=dA B v r) (λa (c:VI)=>c.length=n/\idx c v=some (((r.take a).filter (λb=>decide (In B b))).length:Int)/\∀w,w≠v->idx c w=idx left w) r.length (s:=left) ⟨z,by simpa using m,λ_ _=>rfl⟩ (λa c y ⟨C,s,t⟩=>by
  have g:r[a]? =some r[a]:=ct y
  generalize r[a]=k at g
  obtain⟨E,M⟩:=D k (FI g)
  obtain⟨d,o⟩:=cI (xs:=B) E (by omega)
  have F:((r.take a).filter (λb=>decide (In B b))).length<=a:=GQ (GJ _ _) (by rw[FE];omega)
  obtain⟨L,l,G⟩:=cY (xs:=c) (i:=v) (((r.take a).filter (λb=>decide (In B b))).length+1:Int) (by omega) (by omega)
  unfold dA
  simp only[bT,g,GA,o,s]
  rw[wr' (by omega) (by omega)]
  have p:(r.take (a+1)).filter (λb=>decide (In B b))=(r.take a).filter (λb=>decide (In B b))++(if d then[k] else[]):=by
   rw[jp g,GF];congr 1
   have:In B k↔d=true:=by unfold In;rw[o];simp
   cases d with
   |true=>simp[this]
   |false=>simp[this]
  cases d with
  |true=>
   simp only[cond_true,l,GA]
   refine⟨_,rfl,by omega,?_,λw q=>?_⟩
   .rw[de l,if_pos rfl,p];simp
   .rw[de l,if_neg q];exact t w q
  |false=>
   simp only[cond_false,GA]
   exact⟨_,rfl,C,by rw[p];simpa using s,t⟩)
 rw[Gx]at e
 refine⟨c,u,e.1,?_,e.2.2⟩
 rw[e.2.1]
 unfold lf
 congr 3
 apply List.filter_congr
 intro k _
 simp
def LI (x:solver) (B:VB) (left:VI) (w:Int) (d:Int->Prop):Prop:=idx left w=some (lf (cX x.game.Arena w) (In B) d:Int)\/(idx left w=some 0/\∀a∈cX x.game.Arena w,In B a->¬d a)
omit wf hB in
theorem LI.congr {left:VI}{w:Int}{d b:Int->Prop}(h:LI x B left w d) (c:∀a∈cX x.game.Arena w,In B a->(d a↔b a)):LI x B left w b:=by
 rcases h with h|⟨g,i⟩
 .left;rw[h];congr 2;exact fu c
 .right;exact⟨g,λa f e j=>i a f e ((c a f e).2 j)⟩
theorem xM {O:Int->Prop}{p:Bool}{T L Q R:VI}{u v:Int}{out:VB}{left:VI}(s:Mid (cX x.game.Arena) (ownL x.game.Arena.Owner) (In B) p O T u L Q) (E:Q=T++u::R) (au:v∉L)
 {P:VI} {j:Nat} (am:idx x.preds u=some P) (ab:P[j]? =some v) (aK:Q.length<=100000)
 (F:out.length=n/\∀v:Int,0<=v->v<n->idx out v=some (decide (v∈Q))) (g:left.length=n/\∀v,In B v->v∉Q->¬ownL x.game.Arena.Owner v=p->LI x B left v (dn T u L v)):
 ∃R' f l,eJ x (b2i p) B P (j:Int) (R,out,left)=some (.inr (.inr (R',f,l)))/\Mid (cX x.game.Arena) (ownL x.game.Arena.Owner) (In B) p O T u (L++[v]) (T++u::R') /\
  (f.length=n/\∀v:Int,0<=v->v<n->idx f v=some (decide (v∈T++u::R')))/\(l.length=n/\∀w,In B w->w∉T++u::R'->¬ownL x.game.Arena.Owner w=p->LI x B l w (dn T u (L++[v]) w))/\(∀v∈Q,v∈T++u::R'):=by
 have aO:=wf.n256
 obtain⟨aR,aS,aC⟩:=wf.prev u P am
 obtain⟨ag,H,af⟩:=(aC v).1 (FI ab)
 have I:=dV H
 obtain⟨z,X⟩:=cO H
 rw[wf.ln]at X
 obtain⟨ah,S⟩:=cI (xs:=B) z (by omega)
 obtain⟨w,c⟩:=cI (xs:=x.game.Arena.Owner) z (by rw[wf.lo];exact X)
 have aL:R.length<=100000:=by
  have:=congrArg List.length E
  rw[C9,E1]at this;omega
 unfold eJ
 rw[bT,ab,GA,F.2 v z X,GA,S]
 dsimp only
 simp only[GA,orE]
 have Z:∀y:VI,(y.length=n/\∀w,w≠v->idx y w=idx left w)->In B v->v∉Q->(ownL x.game.Arena.Owner v=p\/lf (cX x.game.Arena v) (In B) (λa=>a∈T\/a=u)=0) ->
  ∃R' f l,(FR (setI out v true) λaG=>FR (appS 8 R [v]) λaD=>(some (.inr (.inr (aD,aG,y))):Option (VB⊕((VI×VB×VI)⊕(VI×VB×VI)))))=some (.inr (.inr (R',f,l)))/\Mid (cX x.game.Arena) (ownL x.game.Arena.Owner) (In B) p O T u (L++[v]) (T++u::R') /\
  (f.length=n/\∀v:Int,0<=v->v<n->idx f v=some (decide (v∈T++u::R')))/\(l.length=n/\∀w,In B w->w∉T++u::R'->¬ownL x.game.Arena.Owner w=p->LI x B l w (dn T u (L++[v]) w))/\(∀v∈Q,v∈T++u::R'):=λy ⟨aA,aB⟩ k m r=>by
  obtain⟨f,ae,aQ⟩:=cY (xs:=out) (i:=v) true z (by omega)
  have D:T++u::(R++[v])=Q++[v]:=by rw[E];simp
  refine⟨R++[v],f,y,by rw[ae,GA,app1 (by omega) rfl,GA],?_,⟨by omega,λa aE aF=>?_⟩,⟨aA,λw c G d=>?_⟩,λa o=>by rw[D];exact GL _ o⟩
  .rw[D];exact s.add k m (I ▸ af) r
  .rw[de ae,D]
   by_cases b:a=v
   .subst b;simp
   .rw[if_neg b,F.2 a aE aF];simp[b]
  .rw[D,E4,E7,not_or]at G
   have:=g.2 w c G.1 d
   unfold LI at this ⊢
   rw[aB w G.2]
   exact LI.congr (left:=left) this λa _ _=>(g9 G.2).symm
 by_cases t:(decide (v∈Q) || !ah)=true
 .rw[t,cond_true]
  have aa:¬In B v\/v∈Q\/u∉cX x.game.Arena v:=by
   simp only[GC,Bool.not_eq_true',decide_eq_true_eq]at t
   rcases t with h|h
   .exact .inr (.inl h)
   .left;unfold In;rw[S,h];simp
  subst E
  refine⟨R,out,left,rfl,s.skip aa,F,⟨g.1,λa o m d=>?_⟩,λ_ h=>h⟩
  refine LI.congr (g.2 a o m d) λaH K _=>?_
  by_cases b:a=v
  .subst b
   rcases aa with h|h|h
   .exact absurd o h
   .exact absurd h m
   .have:aH≠u:=λb=>h (b ▸ K)
    unfold dn;simp[this]
  .exact(g9 b).symm
 .simp only[Bool.not_eq_true,Bool.or_eq_false_iff,Bool.not_eq_false',decide_eq_false_iff_not]at t
  obtain⟨C,al⟩:=t
  subst al
  have k:In B v:=S
  have ar:u∈cX x.game.Arena v:=I ▸ af
  simp only[C,decide_false,F7,Bool.or_false,cond_false,c,GA,Ei c (wf.ow v w c)]
  by_cases d:ownL x.game.Arena.Owner v=p
  .have:decide (¬ownL x.game.Arena.Owner v=p)=false:=by simp[d]
   simp only[this,cond_false]
   exact Z left ⟨g.1,λ_ _=>rfl⟩ k C (.inl d)
  .have:decide (¬ownL x.game.Arena.Owner v=p)=true:=by simp[d]
   simp only[this,cond_true]
   have aM:lf (cX x.game.Arena v) (In B) (λa=>a∈T\/a=u)+1=lf (cX x.game.Arena v) (In B) (dn T u L v):=by
    rw[wv (Am wf v).1 ar s.u_in.2.2 s.u_in.2.1]
    exact fu λa _ _=>(mE au).symm
   have aN:lf (cX x.game.Arena v) (In B) (dn T u L v)<=16:=GQ BC (Am wf v).2.1
   -- the count, made or known
   have an:∃e,(FR (idx left v) λY=>(bif (Y==0) then
    FR (idx x.game.Arena.Next v) λA=>
    FR (cntM (dA B v A) A.length 0 left) λV=>
    aft (λag=>none) (λW=>
     some (W:VI)) V
    else
     some left))=some e/\e.length=n/\idx e v=some (lf (cX x.game.Arena v) (In B) (dn T u L v):Int)/\∀w,w≠v->idx e w=idx left w:=by
    have K:=g.2 v k C d
    by_cases q:idx left v=some 0
    .obtain⟨e,aw,ax,ay,az⟩:=CG wf hB H g.1 q
     refine⟨e,?_,ax,?_,az⟩
     .simp only[q,GA,H,aw,bV]
      rfl
     .rw[ay,I]
      congr 2
      rcases K with h|⟨_,h⟩
      .rw[q]at h
       have:=GS h
       omega
      .exact fu λa o k=>⟨λh=>h.elim,λao=>h a (by rw[I];exact o) k ao⟩
    .rcases K with h|⟨h,_⟩
     .refine⟨left,?_,g.1,h,λ_ _=>rfl⟩
      have:((lf (cX x.game.Arena v) (In B) (dn T u L v):Int)==0)=false:=by
       have:lf (cX x.game.Arena v) (In B) (dn T u L v)≠0:=λb=>q (by rw[h,b];rfl)
       simp[this]
      simp only[h,GA,this,cond_false]
     .exact absurd h q
   obtain⟨e,ai,aJ,aj,ak⟩:=an
   have aq:∀{aI:Type} (N:VI->Option aI),(FR (idx left v) λY=>FR (bif (Y==0) then
    FR (idx x.game.Arena.Next v) λA=>
    FR (cntM (dA B v A) A.length 0 left) λV=>
    aft (λag=>none) (λW=>
     some (W:VI)) V
    else
     some left) N)=FR (some e) N:=λN=>by rw[← ai];cases idx left v <;> rfl
   rw[aq,GA,aj,GA,GA]
   have av:FW .i64 ((lf (cX x.game.Arena v) (In B) (dn T u L v):Int)-1)=(lf (cX x.game.Arena v) (In B) (λa=>a∈T\/a=u):Int):=by rw[wr' (by omega) (by omega)];omega
   obtain⟨M,U,aP⟩:=cY (xs:=e) (i:=v) (lf (cX x.game.Arena v) (In B) (λa=>a∈T\/a=u):Int) z (by omega)
   have ac:idx M v=some (lf (cX x.game.Arena v) (In B) (λa=>a∈T\/a=u):Int):=by rw[de U,if_pos rfl]
   have ad:∀w,w≠v->idx M w=idx left w:=λw c=>by rw[de U,if_neg c,ak w c]
   rw[av,U,GA,ac,GA]
   by_cases r:lf (cX x.game.Arena v) (In B) (λa=>a∈T\/a=u)=0
   .have:decide ((0:Int)<(lf (cX x.game.Arena v) (In B) (λa=>a∈T\/a=u):Int))=false:=by simp[r]
    rw[this,cond_false]
    exact Z M ⟨by omega,ad⟩ k C (.inr r)
   .have:decide ((0:Int)<(lf (cX x.game.Arena v) (In B) (λa=>a∈T\/a=u):Int))=true:=by simp;omega
    rw[this,cond_true]
    subst E
    refine⟨R,out,M,rfl,s.stay d r,F,⟨by omega,λw c m ap=>?_⟩,λ_ h=>h⟩
    by_cases b:w=v
    .subst b
     left
     rw[ac]
     congr 2
     exact fu λa _ _=>vW.symm
    .have:=g.2 w c m ap
     unfold LI at this ⊢
     rw[ad w b]
     exact LI.congr (left:=left) this λa _ _=>(g9 b).symm
end
def hasN (N:VV) (u:Int) (v:Nat):Bool:=match N[v]? with
 |some a=>decide (u∈a)
 |none=>false
def prevL (N:VV) (u:Int) (j:Nat):VI:=((GO j).filter (hasN N u)).map GE
theorem zf (N:VV) (u:Int) (j:Nat):prevL N u (j+1)=prevL N u j++(if hasN N u j=true then[(j:Int)] else[]):=by
 unfold prevL
 rw[GP,GF,FF]
 congr 1
 by_cases h:hasN N u j=true
 .rw[if_pos h,Ge,if_pos h];rfl
 .rw[if_neg h,Ge,if_neg h];rfl
theorem p5:∀{xs:List Nat},xs.Nodup->(xs.map GE).Nodup
 | [],_=>by simp
 |x::xs,h=>by
  obtain⟨b,c⟩:=GN.1 h
  rw[List.map_cons,GN]
  refine⟨λd=>?_,p5 c⟩
  obtain⟨f,e,a⟩:=FH.1 d
  have:f=x:=Int.ofNat.inj a
  exact b (this ▸ e)
theorem su (N:VV) (u:Int) (j:Nat):(prevL N u j).Nodup:=by
 unfold prevL
 exact p5 (List.nodup_range.filter _)
theorem rQ (N:VV) (u:Int) (j:Nat):(prevL N u j).length<=j:=by
 unfold prevL
 rw[Gg]
 exact GQ (GJ _ _) (by rw[GK];omega)
theorem vw {N:VV}{u v:Int}{n:Nat}(j:N.length=n):v∈prevL N u n↔∃d,idx N v=some d/\u∈d:=by
 unfold prevL
 rw[FH]
 constructor
 .rintro⟨w,c,rfl⟩
  obtain⟨f,a⟩:=Gj.1 c
  unfold hasN at a
  rw[GM]at f
  have e:N[w]? =some N[w]:=ct (by omega)
  rw[e]at a
  exact⟨N[w],by rw[show(GE w)=(w:Int) from rfl,bT,e],by simpa using a⟩
 .rintro⟨d,b,i⟩
  obtain⟨g,f⟩:=cO b
  obtain⟨w,c⟩:=dD g
  subst c
  rw[bT]at b
  refine⟨w,Gj.2 ⟨GM.2 (by omega),?_⟩,rfl⟩
  unfold hasN
  rw[b]
  simpa using i
def PrevM (N:VV) (n j:Nat) (row:VI) (i:Nat) (t:VV):Prop:=t.length=n/\∀a:Int,0<=a->a<n->idx t a=some (prevL N a j++(if a∈row.take i then[(j:Int)] else[]))
def PrevT (N:VV) (n j:Nat) (t:VV):Prop:=t.length=n/\∀a:Int,0<=a->a<n->idx t a=some (prevL N a j)
theorem PrevT.zero {N:VV}{n:Nat}:PrevT N n 0 (FK n []):=⟨by simp,λb a c=>by
 rw[cN a,GH,if_pos (by omega)];rfl⟩
theorem PrevT.first {N:VV}{n j:Nat}{t:VV}(h:PrevT N n j t) (row:VI):PrevM N n j row 0 t:=⟨h.1,λa b c=>by rw[h.2 a b c];simp⟩
theorem PrevM.last {N:VV}{n j:Nat}{row:VI}{t:VV}(b:N[j]? =some row) (h:PrevM N n j row row.length t):PrevT N n (j+1) t:=⟨h.1,λa d e=>by
 rw[h.2 a d e,zf,Gx]
 unfold hasN
 rw[b]
 by_cases c:a∈row <;> simp[c]⟩
theorem PrevM.step {N:VV}{n j i:Nat}{row:VI}{t:VV}{u:Int}(h:PrevM N n j row i t) (f:row[i]? =some u) (m:row.Nodup) (g:0<=u) (k:u<n):
 ∃d,idx t u=some d/\d.length<=j+1/\∃b,setI t u (d++[(j:Int)])=some b/\PrevM N n j row (i+1) b:=by
 refine⟨_,h.2 u g k,?_,?_⟩
 .have:=rQ N u j
  rw[C9]
  split
  .simp;omega
  .simp;omega
 .have o:u∉row.take i:=by
   have a:=m.sublist (List.take_sublist (i+1) row)
   rw[Gv,f,Gq]at a
   exact λl=>a.2.2 u l u (by simp) rfl
  obtain⟨b,e,a⟩:=cY (xs:=t) (i:=u) (prevL N u j++(if u∈row.take i then[(j:Int)] else[])++[(j:Int)]) g (by rw[h.1];exact k)
  refine⟨b,e,by rw[a];exact h.1,λw q r=>?_⟩
  have p:row.take (i+1)=row.take i++[u]:=by rw[Gv,f];rfl
  rw[de e,p]
  by_cases c:w=u
  .subst c
   rw[if_pos rfl,if_neg o]
   simp
  .rw[if_neg c,h.2 w q r]
   congr 2
   simp[c]
def cT (B:VB) (j:Nat):VI:=((GO j).filter (λa=>B[a]?.getD false)).map GE
theorem xV {B:VB}{j:Nat}{b:Bool}(h:B[j]? =some b):cT B (j+1)=cT B j++(if b=true then[(j:Int)] else[]):=by
 unfold cT
 rw[GP,GF,FF]
 congr 1
 rw[Ge,h]
 cases b <;> rfl
theorem kF (B:VB) (j:Nat):(cT B j).Nodup:=by
 unfold cT
 exact p5 (List.nodup_range.filter _)
theorem iu (B:VB) (j:Nat):(cT B j).length<=j:=by
 unfold cT
 rw[Gg]
 exact GQ (GJ _ _) (by rw[GK];omega)
theorem cM {B:VB}{v:Int}:v∈cT B B.length↔In B v:=by
 unfold cT In
 rw[FH]
 constructor
 .rintro⟨w,b,rfl⟩
  obtain⟨a,c⟩:=Gj.1 b
  rw[GM]at a
  rw[show(GE w)=(w:Int) from rfl,bT]
  have d:B[w]? =some B[w]:=ct a
  rw[d]at c ⊢
  simpa using c
 .intro h
  obtain⟨e,a⟩:=cO h
  obtain⟨w,b⟩:=dD e
  subst b
  rw[bT]at h
  exact⟨w,Gj.2 ⟨GM.2 (by omega),by rw[h];rfl⟩,rfl⟩
theorem pp {ys:VI}:∀{xs:VI},xs.Nodup->(∀x∈xs,x∈ys)->xs.length<=ys.length:=by
 induction ys with
 |nil=>
  intro xs _ h
  cases xs with
  |nil=>simp
  |cons x xs=>exact absurd (h x (Gi ..)) (by simp)
 |cons e ys d=>
  intro xs b h
  by_cases c:e∈xs
  .have g:=List.length_erase_of_mem c
   have i:=d (xs:=xs.erase e) (b.erase _) (λx a=>by
    rw[b.mem_erase_iff]at a
    exact(E5.1 (h x a.2)).resolve_left a.1)
   rw[E1]
   omega
  .have:=d (xs:=xs) b (λx a=>(E5.1 (h x a)).resolve_left λf=>c (f ▸ a))
   rw[E1]
   omega
def cnt (B:VB):Nat:=(cT B B.length).length
theorem ka (B:VB):cnt B<=B.length:=iu _ _
theorem CB {A B:VB}(h:∀a,In A a->In B a):cnt A<=cnt B:=by
 unfold cnt
 exact pp (kF _ _) λa b=>cM.2 (h a (cM.1 b))
theorem vS {A B:VB}(h:∀a,In A a->In B a){w:Int}(g:In B w) (e:¬In A w):cnt A<cnt B:=by
 have f:∀a∈w::cT A A.length,a∈cT B B.length:=λa b=>by
  rcases E5.1 b with rfl|b
  .exact cM.2 g
  .exact cM.2 (h a (cM.1 b))
 have c:(w::cT A A.length).Nodup:=GN.2 ⟨λd=>e (cM.1 d),kF _ _⟩
 have:=pp c f
 rw[E1]at this
 exact this
theorem tu {B:VB}(h:cnt B=0) (v:Int):¬In B v:=λa=>by
 have:=cM.2 a
 unfold cnt at h
 rw[GI]at h
 rw[h]at this
 cases this
theorem fill {u α:Type}{f:Int->List α->Option (u⊕(List α⊕List α))}(c:Nat->α) (n:Nat){s0:List α}(i:s0.length=n)
 (s:∀(j:Nat) a,j<n->a.length=n->f (j:Int) a=FR (idx a (j:Int)) λ_=>FR (setI a (j:Int) (c j)) λt=>some (.inr (.inr t))):
 ∃a,cntM f n 0 s0=some (.inr a)/\a.length=n/\∀j:Nat,j<n->idx a (j:Int)=some (c j):=by
 obtain⟨a,k,l,m⟩:=cg (f:=f) (λj (a:List α)=>a.length=n/\∀b:Nat,b<j->idx a (b:Int)=some (c b)) n (s:=s0) ⟨i,λb d=>absurd d (Gy b)⟩ (λj a o ⟨q,r⟩=>by
  obtain⟨w,p⟩:=cI (xs:=a) (i:=(j:Int)) (by omega) (by omega)
  obtain⟨x,e,v⟩:=cY (xs:=a) (i:=(j:Int)) (c j) (by omega) (by omega)
  rw[s j a o q,p,GA,e,GA]
  refine⟨_,rfl,by omega,λb d=>?_⟩
  rw[de e]
  by_cases g:(b:Int)=(j:Int)
  .have:b=j:=by omega
   subst this
   rw[if_pos rfl]
  .rw[if_neg g];exact r b (by omega))
 exact⟨a,k,l,m⟩
theorem fillB {q:Type}{f:Int->VB->Option (q⊕(VB⊕VB))}(P:Int->Prop) [∀b,Decidable (P b)] (n:Nat){s0:VB}(g:s0.length=n)
 (m:∀(j:Nat) a,j<n->a.length=n->f (j:Int) a=FR (idx a (j:Int)) λ_=>FR (setI a (j:Int) (decide (P (j:Int)))) λp=>some (.inr (.inr p))) (l:∀b,P b->0<=b/\b<n):
 ∃a,cntM f n 0 s0=some (.inr a)/\a.length=n/\∀b,In a b↔P b:=by
 obtain⟨a,i,k,e⟩:=fill (f:=f) (λj=>decide (P (j:Int))) n g m
 refine⟨a,i,k,λb=>?_⟩
 constructor
 .intro h
  obtain⟨d,o⟩:=cO h
  obtain⟨j,c⟩:=dD d
  subst c
  have:=e j (by omega)
  unfold In at h
  rw[h]at this
  exact of_decide_eq_true (GS this).symm
 .intro h
  obtain⟨d,o⟩:=l b h
  obtain⟨j,c⟩:=dD d
  subst c
  unfold In
  rw[e j (by omega),decide_eq_true h]
instance (B:VB) (v:Int):Decidable (In B v):=by unfold In;exact inferInstance
theorem DQ {B:VB}{v:Int}{b:Bool}(h:idx B v=some b):b=decide (In B v):=by
 have:In B v↔b=true:=by unfold In;rw[h];simp
 rw[F6];simp[this]
theorem dC {B:VB}{v:Int}(b:0<=v) (c:v<B.length):idx B v=some (decide (In B v)):=by
 obtain⟨d,a⟩:=cI (xs:=B) b c
 rw[← DQ a];exact a
theorem fl {B:VB}{n:Nat}(hB:B.length=n){v:Int}(h:In B v):0<=v/\v<n:=by
 have:=cO h
 rw[hB]at this
 exact this
theorem mL {B:VB}(k:B.length<=1000000):iV B=some (cT B B.length):=by
 obtain⟨c,e,g⟩:=cg (f:=lO B) (λa (c:VI)=>c=cT B a) B.length (s:=[]) rfl (λa c i j=>by
  subst j
  have d:B[a]? =some B[a]:=ct i
  generalize B[a]=b at d
  have l:=iu B a
  unfold lO
  rw[bT,d,GA,xV d]
  cases b with
  |true=>
   simp only[cond_true]
   rw[app1 (by omega) rfl,GA,GA]
   exact⟨_,rfl,rfl⟩
  |false=>
   simp only[cond_false,GA]
   exact⟨_,rfl,by simp⟩)
 unfold iV
 rw[e,GA,bV,g]
theorem nV {A B:VB}{n:Nat}(b:A.length=n) (hB:B.length=n) (j:n<=256):∃R,gP A B=some R/\R.length=n/\∀a,In R a↔In A a/\¬In B a:=by
 unfold gP
 rw[b,dq (by omega) rfl,GA]
 obtain⟨R,c,d,e⟩:=fillB (f:=kE A B) (λa=>In A a/\¬In B a) n (s0:=FK n false) (by simp) (λl m i k=>by
  unfold kE
  rw[dC (B:=A) (by omega) (by omega),GA,dC (B:=B) (by omega) (by omega),GA,andE,GA]
  congr 1
  funext _
  congr 2
  rw[F6];simp) (λa g=>fl b g.1)
 rw[c,GA,bV]
 exact⟨R,rfl,d,e⟩
section
variable {x:solver}{n:Nat}(wf:WfI x n){B:VB}(hB:B.length=n)
include wf hB
omit wf in
theorem vl {p:Bool}{a:Int->Prop}{Q:VI}(h:Cert (cX x.game.Arena) (ownL x.game.Arena.Owner) (In B) p a Q):Q.length<=n:=ez n Q h.nd λc b=>sU hB (h.mem c b)
theorem Bo {b:VB}(ad:b.length=n) (p:Bool) (ae:GU (gI x.game) (In B)) (aj:∀a,In b a->In B a):∃A,ic x (b2i p) B b=some A/\A.length=n/\Par.IsAttr (gI x.game) (In B) p (In b) (In A):=by
 have aE:=wf.n256
 unfold ic
 rw[appL (by rw[Gh];omega) rfl,GA,hB,dq (by omega) rfl,GA,mL (by omega),GA,List.nil_append]
 have y:∀a,a∈cT b b.length↔In b a:=λa=>cM
 have af:Cert (cX x.game.Arena) (ownL x.game.Arena.Owner) (In B) p (In b) (cT b b.length):=⟨kF _ _,λa d=>aj a ((y a).1 d),λk a I=> .inl ((y a).1 (FI I))⟩
 have ak:Trap (cX x.game.Arena) (ownL x.game.Arena.Owner) (In B) p (cT b b.length) (λ_ i=>i∈([]:VI)):=λa d j=>⟨λ_ i _ _ h=>by simp at h,λr=>by
  obtain⟨e,ab,G⟩:=ae a d
  exact⟨e,ab,G,by simp⟩⟩
 obtain⟨ap,aA,aB⟩:=cZ (f:=gO x (b2i p) B) (λK (c:VI×VB×VI)=>∃T Q,Q=T++c.1/\T.length=K/\Cert (cX x.game.Arena) (ownL x.game.Arena.Owner) (In B) p (In b) Q/\(∀a,In b a->a∈Q)/\Trap (cX x.game.Arena) (ownL x.game.Arena.Owner) (In B) p Q (λ_ i=>i∈T) /\
  (c.2.1.length=n/\∀a:Int,0<=a->a<n->idx c.2.1 a=some (decide (a∈Q)))/\(c.2.2.length=n/\∀w,In B w->w∉Q->¬ownL x.game.Arena.Owner w=p->LI x B c.2.2 w (λi=>i∈T))) (λ_=>False)
  (λc=>∃Q,Cert (cX x.game.Arena) (ownL x.game.Arena.Owner) (In B) p (In b) Q/\(∀a,In b a->a∈Q)/\Trap (cX x.game.Arena) (ownL x.game.Arena.Owner) (In B) p Q (λ_ i=>i∈Q)/\(c.2.1.length=n/\∀a:Int,0<=a->a<n->idx c.2.1 a=some (decide (a∈Q)))) n (λK c ⟨T,Q,g,Y,t,N,O,D,E⟩=>by
  obtain⟨R,out,left⟩:=c
  dsimp only at g D E
  have aD:=vl hB t
  unfold gO
  dsimp only
  cases R with
  |nil=>
   rw[List.append_nil]at g
   subst g
   simp only[Gh,Int.natCast_zero,Int.lt_irrefl,decide_false,cond_false]
   exact⟨_,rfl,Q,t,N,O,D⟩
  |cons e R=>
   have ah:(0:Int)<((e::R).length:Int):=by simp only[E1];omega
   obtain⟨ax,ay⟩:=sU hB (t.mem e (by rw[g];simp))
   obtain⟨P,H⟩:=cI (xs:=x.preds) ax (by rw[wf.lv];exact ay)
   obtain⟨ar,aH,au⟩:=wf.prev e P H
   have G:idx (e::R) 0=some e:=rfl
   have ac:subS (e::R) 1 ((e::R).length:Int)=some R:=by
    unfold subS
    rw[if_pos ⟨by omega,by simp only[E1];omega,by omega⟩,Int.toNat_natCast,Gx]
    rfl
   have ai:Mid (cX x.game.Arena) (ownL x.game.Arena.Owner) (In B) p (In b) T e [] Q:=by
    have:=Mid.first (T:=T) (u:=e) (R:=R) (g ▸ t) (g ▸ O)
    rwa [← g]at this
   obtain⟨aw,C,az⟩:=cg (f:=eJ x (b2i p) B P) (λk (c:VI×VB×VI)=>Mid (cX x.game.Arena) (ownL x.game.Arena.Owner) (In B) p (In b) T e (P.take k) (T++e::c.1) /\
    (c.2.1.length=n/\∀a:Int,0<=a->a<n->idx c.2.1 a=some (decide (a∈T++e::c.1)))/\(c.2.2.length=n/\∀w,In B w->w∉T++e::c.1->¬ownL x.game.Arena.Owner w=p->LI x B c.2.2 w (dn T e (P.take k) w))/\(∀a∈Q,a∈T++e::c.1)) P.length (s:=(R,out,left))
    ⟨by dsimp only;rw[← g];simpa using ai,by dsimp only;rw[← g];exact D,⟨E.1,λw o j r=>by
     dsimp only at j
     rw[← g]at j
     exact LI.congr (E.2 w o j r) λi _ _=>(mE (by simp)).symm⟩,λa d=>by dsimp only;rw[← g];exact d⟩ (λk c I ⟨F,S,U,V⟩=>by
    obtain⟨R',aq,ao⟩:=c
    dsimp only at F S U V
    have d:P[k]? =some P[k]:=ct I
    generalize P[k]=a at d
    have aC:=vl hB F.cert
    obtain⟨R2,aG,aF,l,u,m,v,Z⟩:=xM wf hB F rfl (ua ar d) H d (by omega) S U
    refine⟨_,l,?_,m,?_,λa d=>Z a (V a d)⟩
    .rw[jp d];exact u
    .rw[jp d];exact v)
   obtain⟨R',aq,ao⟩:=aw
   obtain⟨l,u,m,v⟩:=az
   rw[Gx]at l m
   dsimp only at l u m v
   simp only[ah,decide_true,cond_true,G,ac,GA,H,C,bV]
   have W:∀a,In B a->e∈cX x.game.Arena a->a∈P:=λa d s=>by
    rw[au]
    unfold cX at s
    cases z:idx x.game.Arena.Next a with
    |none=>rw[z]at s;simp at s
    |some av=>rw[z]at s;exact⟨av,rfl,s⟩
   have ag:K<n:=by
    have:=congrArg List.length g
    rw[C9,E1]at this
    omega
   refine⟨_,rfl,ag,T++[e],T++e::R',by simp,by rw[C9,Y];rfl,l.cert,λa q=>v a (N a q),l.last W,u,m.1,λw o j r=>?_⟩
   refine LI.congr (m.2 w o j r) λi al _=>?_
   unfold dn
   rw[E4,E7]
   constructor
   .rintro(h|⟨h,_⟩)
    .exact .inl h
    .exact .inr h
   .rintro(h|h)
    .exact .inl h
    .exact .inr ⟨h,W w o (h ▸ al)⟩) (2 ^ 64) 0 (cT b b.length,b,FK n 0) (by omega) ⟨[],cT b b.length,rfl,rfl,af,λa q=>(y a).2 q,ak,⟨ad,λa M C=>by
    dsimp only
    rw[dC (B:=b) M (by omega)]
    congr 1
    exact decide_eq_decide.2 (y a).symm⟩,⟨by simp,λw o j r=> .inr ⟨by
    have:=sU hB o
    dsimp only
    rw[cN this.1,GH,if_pos (by omega)],λi _ _ h=>by simp at h⟩⟩⟩ (by omega)
 match ap,aB with
 |.inr c,⟨Q,X,am,an,L⟩=>
  rw[aA,GA,bV]
  refine⟨_,rfl,L.1,?_⟩
  have ha:=X.attr (pri:=priL x.game.Prio) (λa _ q=>am a q) an
  have aa:(λa=>a∈Q)=In c.2.1:=by
   funext a
   apply propext
   constructor
   .intro d
    obtain⟨M,C⟩:=sU hB (X.mem a d)
    unfold In;rw[L.2 a M C];simp[d]
   .intro d
    have z:=cO d
    unfold In at d
    rw[L.2 a z.1 (by omega)]at d
    simpa using d
  rw[← aa];exact ha
end
end Go.Proofs.YtldlmopdhmaceaaGreatDoor
namespace Go.Proofs.YtldlmopdhmaceaaGreatDoor.Par
section
open Classical
variable {G:Gm}{X Y:Int->Prop}{p:Bool}{S S' A A2 W W2 D:Int->Prop}
theorem IsAttr.congrS (h:IsAttr G X p S A) (b:∀a,X a->(S a↔S' a)):IsAttr G X p S' A:=by
 obtain⟨g,e⟩:=h.rank
 refine⟨h.sub,λa d f=>h.base a d ((b a d).2 f),⟨g,λa c=>?_⟩,h.mine,h.yours⟩
 rcases e a c with k|k
 .exact .inl ((b a (h.sub a c)).1 k)
 .exact .inr k
structure Red (G:Gm) (X Y:Int->Prop) (p:Bool):Prop where
 sub:∀v,Y v->X v
 mine:∀D,Dom G Y p D->Dom G X p D
 yours:∀D,Dom G Y (!p) D->Dom G X (!p) (λv=>Mn X Y v\/D v)
theorem Red.refl:Red G X X p:=⟨λ_ h=>h,λ_ h=>h,λD h=>h.congr λa=>⟨.inr,λh=>h.resolve_left λh=>h.2 h.1⟩⟩
theorem Red.step (h:Red G X Y p) (g:IsAttr G Y p S A) (j:Sol G (Mn Y A) p W) (b:IsAttr G Y (!p) (Mn (Mn Y A) W) A2):Red G X (Mn Y A2) p:=by
 have i:Dom G Y (!p) (Mn (Mn Y A) W):=Dom.lift g j.yours
 refine⟨λa l=>h.sub a l.1,λD e=>h.mine D ?_,λD e=>(h.yours _ (Dom.grow i b e)).congr λa=>?_⟩
 .have:=Dom.lift (p:= !p) (D:=D) b (by rwa [Bool.not_not])
  rwa [Bool.not_not]at this
 .constructor
  .rintro(⟨c,d⟩|k|k)
   .exact .inl ⟨c,λk=>d k.1⟩
   .exact .inl ⟨h.sub a (b.sub a k),λk'=>k'.2 k⟩
   .exact .inr k
  .rintro(⟨c,d⟩|k)
   .by_cases f:Y a
    .by_cases ha:A2 a
     .exact .inr (.inl ha)
     .exact absurd ⟨f,ha⟩ d
    .exact .inl ⟨c,f⟩
   .exact .inr (.inr k)
theorem Red.sol (h:Red G X Y p) (b:Sol G Y p W):Sol G X p W:=⟨λa f=>h.sub a (b.sub a f),h.mine W b.mine,(h.yours _ b.yours).congr λa=>by
 constructor
 .rintro(⟨c,d⟩|k)
  .exact⟨c,λk=>d (b.sub a k)⟩
  .exact⟨h.sub a k.1,k.2⟩
 .rintro⟨c,d⟩
  by_cases e:Y a
  .exact .inr ⟨e,d⟩
  .exact .inl ⟨c,e⟩⟩
theorem Sol.all (h:Dom G Y p Y):Sol G Y p Y:=⟨λ_ h=>h,h,Dom.empty.congr λa=>⟨λh=>h.elim,λh=>h.2 h.1⟩⟩
theorem Sol.none (h:∀a,¬X a):Sol G X p W->∀a,¬W a:=λb a c=>h a (b.sub a c)
theorem Sol.void (h:∀a,¬X a):Sol G X p X:=Sol.all (Dom.empty.congr λa=>⟨λh=>h.elim,λb=>h a b⟩)
theorem Sol.top {d:Int}(f:NoDead G X) (g:∀a,X a->G.pri a<=d) (hp:oddP d=p) (c:IsAttr G X p (λa=>G.pri a=d) A) (b:Sol G (Mn X A) p W) (e:∀a,Mn X A a->W a):Sol G X p X:=
 Sol.all (Dom.top f g hp c (b.mine.congr λa=>⟨b.sub a,e a⟩))
theorem Sol.asP {q:Bool}(h:Sol G X q W) (p:Bool):Sol G X p (λb=>X b/\(W b↔p=q)):=by
 by_cases c:p=q
 .subst c
  exact h.congr λb=>⟨λa=>⟨h.sub b a,⟨λ_=>rfl,λ_=>a⟩⟩,λa=>a.2.2 rfl⟩
 .have:p= !q:=by revert c;cases p <;> cases q <;> simp
  subst this
  exact h.flip.congr λb=>⟨λa=>⟨a.1,⟨λd=>absurd d a.2,λe=>absurd e c⟩⟩,λa=>⟨a.1,λd=>c (a.2.1 d)⟩⟩
end
end Go.Proofs.YtldlmopdhmaceaaGreatDoor.Par
namespace Go.Proofs.YtldlmopdhmaceaaGreatDoor
open Go Go.Wk Go.Proofs
theorem qP {P:VI}{v:Int}(a:0<=v) (b:v<P.length):idx P v=some (priL P v):=by
 obtain⟨d,c⟩:=cI (xs:=P) a b
 unfold priL;rw[c];rfl
def PriOk (P:VI):Prop:=∀b a,idx P b=some a->0<=a/\a<=40
theorem yz {d:Int}(h:0<=d):Int.tmod d 2=b2i (Par.oddP d):=by
 rw[Int.tmod_eq_emod_of_nonneg h]
 unfold Par.oddP b2i
 by_cases a:d % 2=1
 .simp[a]
 .simp[a];omega
theorem qi (p:Bool):(b2i p==0)= !p:=by cases p <;> rfl
theorem Be (p:Bool):(b2i p==1)=p:=by cases p <;> rfl
theorem oV (p q:Bool):(b2i p==b2i q)=(p==q):=by cases p <;> cases q <;> rfl
theorem oW (p:Bool):FW .i64 (1-b2i p)=b2i (!p):=by cases p <;> decide
theorem vu {A B:VB}{n:Nat}(b:A.length=n) (hB:B.length=n) (j:n<=256):∃R,oO A B=some R/\R.length=n/\∀a,In R a↔In A a/\¬In B a:=by
 unfold oO
 rw[b,dq (by omega) rfl,GA]
 obtain⟨R,c,d,e⟩:=fillB (f:=mf A B) (λa=>In A a/\¬In B a) n (s0:=FK n false) (by simp) (λl m i k=>by
  unfold mf
  rw[dC (B:=A) (by omega) (by omega),GA,dC (B:=B) (by omega) (by omega),GA,andE,GA]
  congr 1
  funext _
  congr 2
  rw[F6];simp) (λa g=>fl b g.1)
 rw[c,GA,bV]
 exact⟨R,rfl,d,e⟩
section
variable {x:l7Game}{n:Nat}(wf:WfS x n) (hp:PriOk x.prio)
include wf hp
theorem DP {B:VB}(hB:B.length=n):∃j:Int,tk x B=some j/\j<=40/\(∀a,In B a->priL x.prio a<=j)/\((j= -1/\∀a,¬In B a)\/(0<=j/\∃a,In B a/\priL x.prio a=j)):=by
 have y:=wf.lp
 obtain⟨e,s,t,u,v⟩:=cg (f:=nR x B) (λd (e:Int)=>e<=40/\(∀a,a<(d:Int)->In B a->priL x.prio a<=e)/\((e= -1/\∀a,a<(d:Int)->¬In B a)\/(0<=e/\∃a,In B a/\priL x.prio a=e))) B.length (s:=(-1:Int)) ⟨by omega,λa c g=>by
  have:=fl hB g;omega,.inl ⟨rfl,λa c g=>by have:=fl hB g;omega⟩⟩ (λd e w ⟨o,k,p⟩=>by
  rw[hB]at w
  unfold nR
  have m:=qP (P:=x.prio) (v:=(d:Int)) (by omega) (by omega)
  obtain⟨q,r⟩:=hp _ _ m
  rw[dC (B:=B) (by omega) (by omega),GA,m]
  by_cases g:In B (d:Int)
  .simp only[g,decide_true,cond_true,GA]
   unfold kK
   by_cases l:priL x.prio (d:Int)<e
   .simp only[l,decide_true,cond_true,GA]
    refine⟨_,rfl,o,λa c i=>?_,?_⟩
    .by_cases b:a=(d:Int)
     .subst b;omega
     .exact k a (by omega) i
    .rcases p with ⟨b,_⟩|h
     .omega
     .exact .inr h
   .simp only[l,decide_false,cond_false,GA]
    refine⟨_,rfl,r,λa c i=>?_,.inr ⟨q,(d:Int),g,rfl⟩⟩
    by_cases b:a=(d:Int)
    .subst b;omega
    .have:=k a (by omega) i;omega
  .simp only[g,decide_false,cond_false,GA]
   refine⟨_,rfl,o,λa c i=>?_,?_⟩
   .by_cases b:a=(d:Int)
    .subst b;exact absurd i g
    .exact k a (by omega) i
   .rcases p with ⟨b,h⟩|h
    .refine .inl ⟨b,λa c i=>?_⟩
     by_cases b:a=(d:Int)
     .subst b;exact g i
     .exact h a (by omega) i
    .exact .inr h)
 unfold tk
 rw[s,GA,bV]
 refine⟨e,rfl,t,λa c=>u a (by have:=fl hB c;omega) c,?_⟩
 rcases v with ⟨b,h⟩|h
 .exact .inl ⟨b,λa c=>h a (by have:=fl hB c;omega) c⟩
 .exact .inr h
omit wf hp in
theorem EH {rest g:VB}{d:Int}{p:Bool}(C:Int.tmod d 2=b2i p) (F:rest.length=n) (H:g.length=n):∃e k,cntM (jC d rest g) n 0 (false,FK n false)=some (.inr (k,e))/\e.length=n/\(∀c,In e c↔In rest c/\(In g c↔p=true))/\(k=true↔∃c,In e c):=by
 let o:Nat->Bool:=λa=>decide (In rest (a:Int)/\(In g (a:Int)↔p=true))
 obtain⟨i,A,s,t,w⟩:=cg (f:=jC d rest g) (λa (i:Bool×VB)=>i.2.length=n/\(∀b:Nat,b<a->idx i.2 (b:Int)=some (o b))/\(i.1=true↔∃b:Nat,b<a/\o b=true)) n (s:=(false,FK n false)) ⟨by simp,λb l=>absurd l (Gy b),by simp⟩ (λa i j ⟨G,x,y⟩=>by
  obtain⟨k,e⟩:=i
  dsimp only at G x y
  obtain⟨K,E⟩:=cI (xs:=e) (i:=(a:Int)) (by omega) (by omega)
  obtain⟨L',v,I⟩:=cY (xs:=e) (i:=(a:Int)) (o a) (by omega) (by omega)
  have q:(decide (In rest (a:Int))&&(decide (In g (a:Int)) != !p))=o a:=by
   show _=decide (In rest (a:Int)/\(In g (a:Int)↔p=true))
   rw[F6]
   cases p <;> simp
  have D:idx L' (a:Int)=some (o a):=by rw[de v,if_pos rfl]
  unfold jC
  dsimp only
  rw[dC (B:=rest) (by omega) (by omega),GA,dC (B:=g) (by omega) (by omega),GA,andE,GA,C,qi,q,E,GA,v,GA,D,GA,orE,GA]
  refine⟨_,rfl,by dsimp only;omega,λb l=>?_,?_⟩
  .dsimp only
   rw[de v]
   by_cases r:(b:Int)=(a:Int)
   .have:b=a:=by omega
    subst this
    rw[if_pos rfl]
   .rw[if_neg r];exact x b (by omega)
  .dsimp only
   rw[GC,y]
   constructor
   .rintro(⟨b,l,h⟩|h)
    .exact⟨b,by omega,h⟩
    .exact⟨a,by omega,h⟩
   .rintro⟨b,l,h⟩
    by_cases r:b=a
    .subst r;exact .inr h
    .exact .inl ⟨b,by omega,h⟩)
 obtain⟨k,e⟩:=i
 dsimp only at s t w
 have u:∀c,In e c↔In rest c/\(In g c↔p=true):=λc=>by
  constructor
  .intro h
   obtain⟨m,z⟩:=cO h
   obtain⟨a,j⟩:=dD m
   subst j
   have:=t a (by omega)
   unfold In at h
   rw[h]at this
   exact of_decide_eq_true (GS this).symm
  .intro h
   obtain⟨m,z⟩:=fl F h.1
   obtain⟨a,j⟩:=dD m
   subst j
   unfold In
   rw[t a (by omega)]
   congr 1
   exact decide_eq_true h
 refine⟨e,k,A,s,u,?_⟩
 rw[w]
 constructor
 .rintro⟨b,l,h⟩
  exact⟨(b:Int),(u _).2 (of_decide_eq_true h)⟩
 .rintro⟨c,q⟩
  obtain⟨m,z⟩:=fl s q
  obtain⟨a,j⟩:=dD m
  subst j
  exact⟨a,by omega,decide_eq_true ((u _).1 q)⟩
theorem Cb:∀(k:Nat) (B:VB) (f:Nat),B.length=n->GU (gS x) (In B)->cnt B<=k->k<f->∃R,kM f x B=some R/\R.length=n/\GV (gS x) (In B) false (In R):=by
 have aa:=wf.n256
 intro k
 induction k with
 |zero=>
  intro B f hB i aG aF
  obtain⟨f,rfl⟩:∃g,f=g+1:=⟨f-1,by omega⟩
  show ∃R,jE (kM f) x B=some R/\_
  unfold jE
  obtain⟨c,z,aP,al,O⟩:=DP wf hp hB
  have d:=tu (B:=B) (by omega)
  rcases O with ⟨D,_⟩|⟨_,a,b,_⟩
  .subst D
   rw[z,GA,hB,dq (by omega) rfl,GA]
   refine⟨_,rfl,by simp,(Par.Sol.void d).congr λa=>⟨λh=>absurd h (d a),λh=>?_⟩⟩
   have H:=cO h
   unfold In at h
   rw[cN H.1,GH]at h
   split at h <;> simp at h
  .exact absurd b (d a)
 |succ k ae=>
  intro B f hB i aG aF
  obtain⟨f,rfl⟩:∃g,f=g+1:=⟨f-1,by omega⟩
  show ∃R,jE (kM f) x B=some R/\_
  unfold jE
  obtain⟨c,z,aP,al,O⟩:=DP wf hp hB
  rcases O with ⟨D,d⟩|⟨aE,w,I,aI⟩
  .subst D
   rw[z,GA,hB,dq (by omega) rfl,GA]
   refine⟨_,rfl,by simp,(Par.Sol.void d).congr λa=>⟨λh=>absurd h (d a),λh=>?_⟩⟩
   have H:=cO h
   unfold In at h
   rw[cN H.1,GH]at h
   split at h <;> simp at h
  .have aH:decide (c<0)=false:=by simp;omega
   have l:=yz aE
   generalize hpe:Par.oddP c=p at l
   rw[z,GA,hB,dq (by omega) rfl,GA]
   simp only[aH,cond_false,GA]
   obtain⟨aQ,ax,ay,V⟩:=fillB (f:=lB x B c) (λa=>In B a/\priL x.prio a=c) n (s0:=FK n false) (by simp) (λaf ak Z ab=>by
    unfold lB
    rw[dC (B:=B) (by omega) (by omega),GA,qP (P:=x.prio) (by omega) (by rw[wf.lp];omega),GA,andE,GA]
    congr 1
    funext _
    congr 2
    rw[F6];simp) (λa b=>fl hB b.1)
   rw[ax,GA,bV,l]
   obtain⟨A,am,an,Q⟩:=B9 wf hB ay p i
   have E:Par.IsAttr (gS x) (In B) p (λa=>(gS x).pri a=c) (In A):=Q.congrS λa b=>by rw[V];exact⟨λh=>h.2,λh=>⟨b,h⟩⟩
   obtain⟨rest,aO,aj,y⟩:=vu hB an aa
   have G:∀a,GT (In B) (In A) a↔In rest a:=λa=>(y a).symm
   have t:GT (In B) (In A)=In rest:=funext λa=>propext (G a)
   have aA:GU (gS x) (In rest):=t ▸ i.less E
   have aR:cnt rest<cnt B:=vS (λa b=>((y a).1 b).1) I λh=>((y w).1 h).2 (Q.base w I ((V w).2 ⟨I,aI⟩))
   obtain⟨K,aJ,aK,aL⟩:=ae rest f aj aA (by omega) (by omega)
   obtain⟨C,ao,aM,aN,ah,ai⟩:=EH l aj aK
   simp only[am,GA,aO,aJ,aM,bV]
   have X:=aL.asP p
   have W:∀a,In C a↔GT (In rest) (λa=>In rest a/\(In K a↔p=false)) a:=λa=>by
    rw[ah]
    unfold GT
    by_cases u:In rest a <;> by_cases v:In K a <;> cases p <;> simp[u,v]
   have aw:GT (In rest) (λa=>In rest a/\(In K a↔p=false))=In C:=funext λa=>propext (W a).symm
   cases Y:ao with
   |false=>
    simp only[GB,cond_true]
    have d:∀a,¬In C a:=λa b=>by
     have:=ai.2 ⟨a,b⟩
     rw[Y]at this;cases this
    obtain⟨R,L,M,N⟩:=fillB (f:=lC B c) (λa=>In B a/\p=false) n (s0:=FK n false) (by simp) (λaf ak Z ab=>by
     unfold lC
     rw[dC (B:=B) (by omega) (by omega),GA,andE,GA,l,qi]
     congr 1
     funext _
     congr 2
     rw[F6];simp) (λa b=>fl hB b.1)
    rw[L,GA,bV]
    refine⟨R,rfl,M,?_⟩
    have F:GV (gS x) (In B) p (In B):=Par.Sol.top i al hpe E (t.symm ▸ X) λa b=>by
     have b:=(G a).1 b
     apply F9
     intro aD
     exact d a ((W a).2 ⟨b,λh=>aD ⟨(G a).2 b,h.2⟩⟩)
    refine(F.asP false).congr λa=>?_
    rw[N]
    constructor
    .rintro⟨e,m⟩;exact⟨e,(m.1 e).symm⟩
    .rintro⟨e,m⟩;exact⟨e,λ_=>m.symm,λ_=>e⟩
   |true=>
    simp only[F7,cond_false]
    obtain⟨q,ac⟩:=ai.1 Y
    obtain⟨A2,ap,S,r⟩:=B9 wf hB aN (!p) i
    obtain⟨o,aq,ar,s⟩:=vu hB S aa
    have U:GT (In B) (In A2)=In o:=funext λa=>propext (s a).symm
    have aB:GU (gS x) (In o):=U ▸ i.less r
    have ad:In B q:=((y q).1 ((ah q).1 ac).1).1
    have aS:cnt o<cnt B:=vS (λa b=>((s a).1 b).1) ad λh=>((s q).1 h).2 (r.base q ad ac)
    obtain⟨j,au,av,T⟩:=ae o f ar aB (by omega) (by omega)
    rw[oW]
    simp only[ap,GA,aq,au]
    obtain⟨R,L,M,N⟩:=fillB (f:=lD c A2 j) (λa=>In j a\/(In A2 a/\p=true)) n (s0:=FK n false) (by simp) (λaf ak Z ab=>by
     unfold lD
     rw[dC (B:=j) (by omega) (by omega),GA,dC (B:=A2) (by omega) (by omega),GA,andE,GA,orE,GA,l,Be]
     congr 1
     funext _
     congr 2
     rw[F6];simp) (λa b=>by
      rcases b with h|h
      .exact fl av h
      .exact fl S h.1)
    rw[L,GA,bV]
    refine⟨R,rfl,M,?_⟩
    have aC:Par.Red (gS x) (In B) (GT (In B) (In A2)) p:=Par.Red.refl.step E (t.symm ▸ X) (by rw[t,aw];exact r)
    have F:=aC.sol (U.symm ▸ T.asP p)
    refine(F.asP false).congr λa=>?_
    rw[N]
    have e:In j a->In o a:=T.sub a
    have m:In A2 a->In B a:=r.sub a
    have ag:=s a
    by_cases u:In B a <;> by_cases v:In A2 a <;> by_cases az:In j a <;> cases aT:p <;> simp[u,v]at e m ag <;> simp[u,v,az,ag] <;> simp_all
end
theorem tB {B:VB}:∃g,da B true=some g/\(g=true↔∃a,In B a):=by
 unfold da fk
 obtain⟨n,i,c⟩:=xy (f:=dy B true) (λd (_:Unit)=>∀a,a<(d:Int)->¬In B a) (λk=>0<=k/\∃a,In B a) (λ_=>False) B.length (s:=()) (λa b e=>by have:=cO e;omega) (λd o p e=>by
  unfold dy
  rw[dC (B:=B) (by omega) (by omega),GA]
  by_cases h:In B (d:Int)
  .simp only[h,decide_true,BEq.rfl,cond_true]
   exact⟨_,rfl,by omega,_,h⟩
  .have:(true==decide (In B (d:Int)))=false:=by simp[h]
   simp only[this,cond_false]
   refine⟨_,rfl,λa b j=>?_⟩
   by_cases l:a=(d:Int)
   .subst l;exact h j
   .exact e a (by omega) j)
 match n,c with
 |.inl k,⟨m,b⟩=>
  rw[i,GA]
  exact⟨_,rfl,λ_=>b,λ_=>decide_eq_true m⟩
 |.inr _,c=>
  have c:=c.resolve_right id
  rw[i,GA,bV]
  refine⟨_,rfl,λh=>absurd h (by decide),λ⟨a,b⟩=>absurd b (c a (by have:=cO b;omega))⟩
section
variable {x:solver}{n:Nat}(wf:WfI x n) (hp:PriOk x.game.Prio)
include wf hp
theorem EP {B:VB}(hB:B.length=n){w:Int}(y:In B w):∃e:Int,sY x.game (cT B B.length)=some e/\0<=e/\(∀a,In B a->priL x.game.Prio a<=e)/\∃a,In B a/\priL x.game.Prio a=e:=by
 have D:=wf.lp
 obtain⟨c,r,j,s⟩:=cg (f:=ng x.game (cT B B.length)) (λd (c:Int)=>(∀a∈(cT B B.length).take d,priL x.game.Prio a<=c)/\((c= -1/\d=0)\/(0<=c/\∃a,In B a/\priL x.game.Prio a=c))) (cT B B.length).length (s:=(-1:Int)) ⟨λa b=>by simp at b,.inl ⟨rfl,rfl⟩⟩ (λd c v ⟨z,A⟩=>by
  have g:(cT B B.length)[d]? =some (cT B B.length)[d]:=ct v
  generalize(cT B B.length)[d]=u at g
  have k:=cM.1 (FI g)
  obtain⟨E,F⟩:=fl hB k
  have o:=qP (P:=x.game.Prio) (v:=u) (by omega) (by omega)
  obtain⟨p,C⟩:=hp _ _ o
  unfold ng
  rw[bT,g,GA,o,GA,jp g]
  refine⟨_,rfl,λa b=>?_,.inr ?_⟩
  .rcases E4.1 b with b|b
   .have:=z a b
    split <;> omega
   .rw[E7]at b
    subst b
    split <;> omega
  .by_cases l:c<priL x.game.Prio u
   .rw[if_pos l];exact⟨p,u,k,rfl⟩
   .rw[if_neg l]
    rcases A with ⟨i,_⟩|h
    .omega
    .exact h)
 unfold sY
 rw[r,GA,bV]
 rw[Gx]at j
 have m:=cM.2 y
 rcases s with ⟨_,i⟩|⟨q,t⟩
 .rw[GI]at i
  rw[i]at m
  cases m
 .exact⟨c,rfl,q,λa b=>j a (cM.2 b),t⟩
theorem EQ:∀(k:Nat) (B:VB) (f:Nat),B.length=n->GU (gI x.game) (In B)->cnt B<=k->k<f->∃R d,dU f x B=some (R,b2i d)/\R.length=n/\GV (gI x.game) (In B) d (In R):=by
 have K:=wf.n256
 intro k
 induction k with
 |zero=>
  intro B f hB Z aD aC
  obtain⟨f,rfl⟩:∃g,f=g+1:=⟨f-1,by omega⟩
  show ∃R d,ee (dU f) x B=some (R,b2i d)/\_
  unfold ee
  have j:cnt B=0:=by omega
  have r:=tu j
  rw[mL (by omega),GA]
  have i:((cT B B.length).length:Int)=0:=by
   unfold cnt at j;omega
  rw[i]
  exact⟨B,false,rfl,hB,Par.Sol.void r⟩
 |succ k aK=>
  intro B f hB Z aD aC
  obtain⟨f,rfl⟩:∃g,f=g+1:=⟨f-1,by omega⟩
  show ∃R d,ee (dU f) x B=some (R,b2i d)/\_
  unfold ee
  by_cases j:cnt B=0
  .have r:=tu j
   rw[mL (by omega),GA]
   have i:((cT B B.length).length:Int)=0:=by
    unfold cnt at j;omega
   rw[i]
   exact⟨B,false,rfl,hB,Par.Sol.void r⟩
  .have L:∃w,In B w:=by
    apply F9
    intro I
    apply j
    unfold cnt
    rw[GI]
    cases aF:cT B B.length with
    |nil=>rfl
    |cons a a5=>exact absurd ⟨a,cM.1 (by rw[aF];exact Gi ..)⟩ I
   obtain⟨w,L⟩:=L
   obtain⟨q,aT,aB,aU,z,aJ,aI⟩:=EP wf hp hB L
   have aG:((((cT B B.length).length:Int))==0)=false:=by
    unfold cnt at j
    have:((cT B B.length).length:Int)≠0:=by omega
    simpa using this
   have ad:=yz aB
   generalize hpe:Par.oddP q=p at ad
   rw[mL (by omega),GA,aG,cond_false,aT,GA,appL (by rw[Gh];omega) rfl,GA,List.nil_append]
   obtain⟨aQ,aV,o⟩:=cZ (f:=fq (dU f) x B q) (λO (c:VB)=>c.length=n/\Par.Red (gI x.game) (In B) (In c) p/\GU (gI x.game) (In c)/\(cnt c<cnt B\/∀a,In B a->In c a)/\cnt c+O<=cnt B)
    (λah=>∃R,ah=(R,b2i p)/\R.length=n/\GV (gI x.game) (In B) p (In R)) (λ_=>False) (cnt B) (λO c ⟨m,U,t,aR,a3⟩=>by
    unfold fq
    rw[hB,dq (by omega) rfl,GA]
    obtain⟨aX,aw,ax,D⟩:=fillB (f:=ft x q c) (λa=>In c a/\priL x.game.Prio a=q) n (s0:=FK n false) (by simp) (λO a4 a1 a2=>by
     unfold ft
     rw[dC (B:=c) (by omega) (by omega),GA,qP (P:=x.game.Prio) (by omega) (by rw[wf.lp];omega),GA,andE,GA]
     congr 1
     funext _
     congr 2
     rw[F6];simp) (λa b=>fl m b.1)
    rw[List.length_replicate,aw,GA,bV,ad]
    obtain⟨A,aj,ak,V⟩:=Bo wf m ax p t λa b=>((D a).1 b).1
    have G:Par.IsAttr (gI x.game) (In c) p (λa=>(gI x.game).pri a=q) (In A):=V.congrS λa b=>by rw[D];exact⟨λh=>h.2,λh=>⟨b,h⟩⟩
    obtain⟨rest,aS,ai,u⟩:=nV m ak K
    have ac:∀a,GT (In c) (In A) a↔In rest a:=λa=>(u a).symm
    have v:GT (In c) (In A)=In rest:=funext λa=>propext (ac a)
    have ay:GU (gI x.game) (In rest):=v ▸ t.less G
    have a0:cnt rest<=cnt c:=CB λa b=>((u a).1 b).1
    have aY:cnt rest<cnt B:=by
     rcases aR with h|h
     .omega
     .have N:=h z aJ
      have:=vS (λa b=>((u a).1 b).1) N λh=>((u z).1 h).2 (V.base z N ((D z).2 ⟨N,aI⟩))
      omega
    obtain⟨W,d,aO,ae,af⟩:=aK rest f ai ay (by omega) (by omega)
    simp only[aj,GA,aS,aO,oV]
    have ab:=af.asP p
    -- what is lost
    have aE:∃e,(bif d==p then FR (gP rest W) λaW=>some (aW:VB) else some W)=some e/\e.length=n/\∀a,In e a↔GT (In rest) (λa=>In rest a/\(In W a↔p=d)) a:=by
     by_cases i:d=p
     .subst i
      obtain⟨e,Q,S,s⟩:=nV ai ae K
      refine⟨e,by rw[Q,show(d==d)=true from by simp];rfl,S,λa=>?_⟩
      rw[s]
      unfold GT
      by_cases E:In rest a <;> by_cases F:In W a <;> simp[E,F]
     .have y:(d==p)=false:=by simpa using i
      refine⟨W,by rw[y];rfl,ae,λa=>?_⟩
      have:=af.sub a
      unfold GT
      have au:¬p=d:=λh=>i h.symm
      by_cases E:In rest a <;> by_cases F:In W a <;> simp[E,F,au]at this ⊢
    obtain⟨e,Q,S,s⟩:=aE
    have av:GT (In rest) (λa=>In rest a/\(In W a↔p=d))=In e:=funext λa=>propext (s a).symm
    obtain⟨al,ap,X⟩:=tB (B:=e)
    simp only[Q,GA,ap]
    cases y:al with
    |false=>
     simp only[GB,cond_true]
     have r:∀a,¬In e a:=λa b=>by
      have:=X.2 ⟨a,b⟩
      rw[y]at this;cases this
     refine⟨_,rfl,c,rfl,m,U.sol (Par.Sol.top t (λa b=>aU a (U.sub a b)) hpe G (v.symm ▸ ab) λa b=>?_)⟩
     have aH:=(ac a).1 b
     apply F9
     intro I
     exact r a ((s a).2 ⟨aH,λh=>I ⟨b,h.2⟩⟩)
    |true=>
     simp only[F7,cond_false]
     obtain⟨o,M⟩:=X.1 y
     have H:∀a,In e a->In c a:=λa b=>((u a).1 ((s a).1 b).1).1
     obtain⟨A2,an,ao,C⟩:=Bo wf m S (!p) t H
     obtain⟨l,aP,ag,T⟩:=nV m ao K
     have Y:GT (In c) (In A2)=In l:=funext λa=>propext (T a).symm
     have az:GU (gI x.game) (In l):=Y ▸ t.less C
     have aZ:cnt l<cnt c:=vS (λa b=>((T a).1 b).1) (H o M) λh=>((T o).1 h).2 (C.base o (H o M) M)
     have aa:Par.Red (gI x.game) (In B) (In l) p:=by
      have:=U.step G (v.symm ▸ ab) (by rw[v,av];exact C)
      rwa [Y]at this
     obtain⟨am,aq,ar⟩:=tB (B:=l)
     rw[oW]
     simp only[an,GA,aP,aq]
     cases aA:am with
     |false=>
      simp only[GB,cond_true]
      refine⟨_,rfl,l,rfl,ag,aa.sol (Par.Sol.void λa b=>?_)⟩
      have:=ar.2 ⟨a,b⟩
      rw[aA]at this;cases this
     |true=>
      simp only[F7,cond_false]
      exact⟨_,rfl,by omega,ag,aa,az,.inl (by omega),by omega⟩) (2 ^ 64) 0 B (by have:=ka B;omega) ⟨hB,Par.Red.refl,Z,.inr λ_ h=>h,by omega⟩ (by omega)
   match aQ,o with
   |.inl ah,⟨R,aL,aM,aN⟩=>
    subst aL
    rw[aV,GA]
    exact⟨R,p,rfl,aM,aN⟩
end
structure GOk (g:Parity) (n:Nat):Prop where
 n256:n<=256
 lo:g.Arena.Owner.length=n
 lp:g.Prio.length=n
 ln:g.Arena.Next.length=n
 ow:∀v o,idx g.Arena.Owner v=some o->o=0\/o=1
 row:∀v r,idx g.Arena.Next v=some r->r.length<=16/\r.Nodup/\∀u∈r,0<=u/\u<n
 pri:PriOk g.Prio
theorem z8 {α:Type}{xs:List α}{v:Int}{x:α}(h:idx xs v=some x):x∈xs:=by
 obtain⟨a,_⟩:=cO h
 rw[cN a]at h
 exact FI h
theorem GOk.of {g:Parity}(h:c8 g=true):GOk g g.Prio.length:=by
 obtain⟨v,w,x,y,c⟩:=dZ h
 obtain⟨d,e⟩:=uc h
 refine⟨by omega,by omega,rfl,by omega,λb m i=>?_,λb o a=>?_,λb n j=>?_⟩
 .have:=gQ.1 (d m (z8 i))
  omega
 .obtain⟨u,_⟩:=cO a
  obtain⟨l,f⟩:=dD u
  subst f
  rw[bT]at a
  obtain⟨z,p,q⟩:=c l o a
  obtain⟨r,s⟩:=fI.1 q
  exact⟨p,iz s,λt k=>by have:=r t k;omega⟩
 .have:=gQ.1 (e n (z8 j))
  omega
section
variable {g:Parity}{n:Nat}(h:GOk g n)
include h
theorem yX:∃P,pe g.Arena=some P/\PrevT g.Arena.Next n n P:=by
 have A:=h.n256
 unfold pe
 rw[h.lo,dq (by omega) rfl,GA,h.ln]
 obtain⟨b,k,l⟩:=cg (f:=ku g.Arena) (λa (b:VV)=>PrevT g.Arena.Next n a b) n (s:=FK n []) PrevT.zero (λa b i o=>by
  have d:g.Arena.Next[a]? =some (g.Arena.Next[a]'(by rw[h.ln];exact i)):=ct (by rw[h.ln];exact i)
  generalize g.Arena.Next[a]'(by rw[h.ln];exact i)=row at d
  obtain⟨D,w,x⟩:=h.row (a:Int) row (by rw[bT];exact d)
  unfold ku
  rw[bT,d,GA]
  obtain⟨j,q,r⟩:=cg (f:=kv (a:Int) row) (λc (j:VV)=>PrevM g.Arena.Next n a row c j) row.length (s:=b) (o.first row) (λc j m p=>by
   have e:row[c]? =some row[c]:=ct m
   generalize row[c]=u at e
   obtain⟨y,z⟩:=x u (FI e)
   obtain⟨C,s,B,E,t,v⟩:=p.step e w y z
   unfold kv
   rw[bT,e,GA,s,GA,app1 (by omega) rfl,GA,GA,t,GA]
   exact⟨_,rfl,v⟩)
  rw[q,GA,bV]
  exact⟨_,rfl,r.last d⟩)
 rw[k,GA,bV]
 exact⟨b,rfl,l⟩
theorem wY:∃P,r6 g=some ⟨g.Arena.Owner,g.Prio,g.Arena.Next,P,FK n (-1)⟩/\PrevT g.Arena.Next n n P:=by
 have S:=h.n256
 unfold r6
 rw[h.lp,dq (by omega) rfl,GA,dq (by omega) rfl,GA]
 obtain⟨c,y,z,Q,A⟩:=cg (f:=pC g) (λb (c:VV×VI)=>PrevT g.Arena.Next n b c.1/\c.2.length=n/\∀a:Nat,a<b->idx c.2 (a:Int)=some (-1)) n (s:=(FK n [],FK n 0)) ⟨PrevT.zero,by simp,λa i=>absurd i (Gy a)⟩ (λb c o ⟨v,H,x⟩=>by
  obtain⟨c,k⟩:=c
  dsimp only at v H x
  have j:g.Arena.Next[b]? =some (g.Arena.Next[b]'(by rw[h.ln];exact o)):=ct (by rw[h.ln];exact o)
  generalize g.Arena.Next[b]'(by rw[h.ln];exact o)=row at j
  obtain⟨V,I,K⟩:=h.row (b:Int) row (by rw[bT];exact j)
  obtain⟨w,B⟩:=cI (xs:=k) (i:=(b:Int)) (by omega) (by omega)
  obtain⟨k',s,R⟩:=cY (xs:=k) (i:=(b:Int)) (-1) (by omega) (by omega)
  unfold pC
  dsimp only
  rw[B,GA,s,GA]
  obtain⟨G,N,q⟩:=cZ (f:=pD g (b:Int)) (λa (d:Int×VV)=>d.1=(a:Int)/\a<=row.length/\PrevM g.Arena.Next n b row a d.2) (λ_=>False) (λd=>PrevM g.Arena.Next n b row row.length d.2) row.length (λa d ⟨r,O,m⟩=>by
   obtain⟨T,d⟩:=d
   dsimp only at r m
   subst r
   unfold pD
   dsimp only
   rw[bT,j,GA]
   by_cases t:a<row.length
   .have p:(a:Int)<(row.length:Int):=by omega
    have l:row[a]? =some row[a]:=ct t
    generalize row[a]=u at l
    obtain⟨L,M⟩:=K u (FI l)
    obtain⟨w,D,U,W,E,F⟩:=m.step l I L M
    have C:FW .i64 ((a:Int)+1)=((a+1:Nat):Int):=by rw[wr' (by omega) (by omega)];omega
    simp only[p,decide_true,cond_true,GA,bT,l,D,app1 (show w.length<=10000000000 by omega) (show Nat.ble 8 1024=true from rfl),E,C]
    exact⟨_,rfl,t,rfl,by omega,F⟩
   .have p:¬(a:Int)<(row.length:Int):=by omega
    simp only[p,decide_false,cond_false]
    have e:a=row.length:=by omega
    subst e
    exact⟨_,rfl,m⟩) (2 ^ 64) 0 (0,c) (by omega) ⟨rfl,by omega,v.first row⟩ (by omega)
  match G,q with
  |.inr d,q=>
   rw[N,GA,bV]
   refine⟨_,rfl,q.last j,by dsimp only;omega,λa i=>?_⟩
   dsimp only
   rw[de s]
   by_cases e:(a:Int)=(b:Int)
   .rw[if_pos e]
   .rw[if_neg e];exact x a (by omega))
 rw[y,GA,bV]
 have e:c.2=FK n (-1):=by
  apply Fv
  intro a
  rw[GH]
  by_cases i:a<n
  .rw[if_pos i,← bT];exact A a i
  .rw[if_neg i];exact GG (by omega)
 refine⟨c.1,?_,z⟩
 rw[e]
theorem GOk.wfI {P:VV}(c:PrevT g.Arena.Next n n P):WfI ⟨g,P⟩ n:=by
 refine⟨h.n256,h.lo,h.lp,h.ln,c.1,h.ow,h.row,λb Q a=>?_⟩
 obtain⟨e,d⟩:=cO a
 have d:b<(P.length:Int):=d
 have a:idx P b=some Q:=a
 rw[c.2 b e (by have:=c.1;omega)]at a
 cases a
 have:=rQ g.Arena.Next b n
 have:=h.n256
 exact⟨su _ _ _,by omega,λf=>vw h.ln⟩
theorem GOk.wfS {P:VV}(c:PrevT g.Arena.Next n n P){k:VI}(e:k.length=n):WfS ⟨g.Arena.Owner,g.Prio,g.Arena.Next,P,k⟩ n:=by
 refine⟨h.n256,h.lo,h.lp,h.ln,e,c.1,h.ow,h.row,λb Q a=>?_⟩
 obtain⟨f,d⟩:=cO a
 have d:b<(P.length:Int):=d
 have a:idx P b=some Q:=a
 rw[c.2 b f (by have:=c.1;omega)]at a
 cases a
 have:=rQ g.Arena.Next b n
 have:=h.n256
 exact⟨su _ _ _,by omega,λi=>vw h.ln⟩
theorem zP (P:VV):gS ⟨g.Arena.Owner,g.Prio,g.Arena.Next,P,FK n (-1)⟩=gI g:=by
 unfold gS gI
 congr 1
 funext v
 unfold rowS cX
 dsimp only
 cases b:idx g.Arena.Next v with
 |none=>rfl
 |some a=>
  obtain⟨c,e⟩:=cO b
  have:idx (FK n (-1:Int)) v=some (-1):=by
   rw[cN c,GH,if_pos (by have:=h.ln;omega)]
  rw[this]
  show a.filter (okE (-1))=a
  rw[List.filter_eq_self]
  intro d _
  rfl
theorem Bb:wW (g.Prio.length:Int)=some (FK n true):=by
 have l:=h.n256
 unfold wW
 have m:rng (n:Int)=some ()\/True:= .inr trivial
 rw[h.lp,dq (by omega) rfl,GA,show Int.toNat ((n:Int)-0)=n from by omega]
 obtain⟨c,e,j,i⟩:=fill (f:=qd) (λ_=>true) n (s0:=FK n false) (by simp) (λp c k o=>by
  unfold qd
  rfl)
 rw[e]
 have d:c=FK n true:=by
  apply Fv
  intro b
  rw[GH]
  by_cases a:b<n
  .rw[if_pos a,← bT];exact i b a
  .rw[if_neg a];exact GG (by omega)
 subst d
 have:rng (n:Int)=some ():=by
  unfold rng
  first
   |rfl
   |rw[if_pos (by omega)]
 rw[this];rfl
omit h in
theorem yJ (v:Int):In (FK n true) v↔0<=v/\v<n:=by
 constructor
 .intro h
  have:=cO h
  simpa using this
 .rintro⟨a,b⟩
  unfold In
  rw[cN a,GH,if_pos (by omega)]
theorem BH {L:VI}(p:∀a∈L,0<=a/\a<n):∃R,qy g.Arena L=some R/\R.length=n/\∀a,In R a↔a∈L:=by
 have A:=h.n256
 unfold qy
 rw[h.lo,dq (by omega) rfl,GA]
 obtain⟨b,w,o,m⟩:=cg (f:=lP L) (λc (b:VB)=>b.length=n/\∀a:Int,0<=a->a<n->idx b a=some (decide (a∈L.take c))) L.length (s:=FK n false) ⟨by simp,λa d l=>by
  rw[cN d,GH,if_pos (by omega)];simp⟩ (λc b x ⟨B,t⟩=>by
  have k:L[c]? =some L[c]:=ct x
  generalize L[c]=u at k
  obtain⟨v,y⟩:=p u (FI k)
  obtain⟨C,s,z⟩:=cY (xs:=b) (i:=u) true v (by omega)
  unfold lP
  rw[bT,k,GA,t u v y,GA,s,GA]
  refine⟨_,rfl,by omega,λa d l=>?_⟩
  rw[de s,jp k]
  by_cases e:a=u
  .rw[if_pos e];simp[e]
  .rw[if_neg e,t a d l];simp[e])
 rw[w,GA,bV]
 refine⟨b,rfl,o,λa=>?_⟩
 rw[Gx]at m
 constructor
 .intro j
  have q:=fl o j
  unfold In at j
  rw[m a q.1 q.2]at j
  simpa using j
 .intro r
  obtain⟨d,l⟩:=p a r
  unfold In
  rw[m a d l]
  simpa using r
theorem yE {L:VI}(s:∀a∈L,0<=a/\a<n) (t:GU (gI g) (λa=>a∈L)):∃i O W,qC g L=some (i,O)/\GV (gI g) (λa=>a∈L) false W/\(∀a,a∈i↔W a)/\(∀a,a∈O↔a∈L/\¬W a)/\i.length<=n/\O.length<=n:=by
 have v:=h.n256
 obtain⟨P,x,y⟩:=yX h
 obtain⟨M,w,o,e⟩:=BH h s
 have l:In M=λa=>a∈L:=funext λa=>propext (e a)
 obtain⟨R,p,z,A,f⟩:=EQ (h.wfI y) h.pri n M (2 ^ 64) o (by rw[l];exact t) (by have:=ka M;omega) (by omega)
 obtain⟨X,B,E,q⟩:=nV o A v
 have C:=iu R R.length
 have D:=iu X X.length
 have f:GV (gI g) (In M) p (In R):=f
 unfold qC
 rw[x,GA,w,GA,z,GA]
 dsimp only
 rw[qi,mL (by omega),B]
 simp only[GA]
 rw[mL (by omega)]
 simp only[GA]
 have k:=f.asP false
 rw[l]at k
 have m:=f.sub
 cases p with
 |false=>
  simp only[GB,cond_true]
  refine⟨_,_,_,rfl,k,λa=>?_,λa=>?_,by omega,by omega⟩
  .rw[cM]
   exact⟨λb=>⟨(e a).1 (m a b),λ_=>rfl,λ_=>b⟩,λb=>b.2.2 rfl⟩
  .rw[cM,q,e]
   exact⟨λb=>⟨b.1,λd=>b.2 (d.2.2 rfl)⟩,λb=>⟨b.1,λc=>b.2 ⟨b.1,λ_=>rfl,λ_=>c⟩⟩⟩
 |true=>
  simp only[F7,cond_false]
  refine⟨_,_,_,rfl,k,λa=>?_,λa=>?_,by omega,by omega⟩
  .rw[cM,q,e]
   exact⟨λb=>⟨b.1,λc=>absurd c b.2,λj=>absurd j (by decide)⟩,λb=>⟨b.1,λc=>absurd (b.2.1 c) (by decide)⟩⟩
  .rw[cM]
   constructor
   .intro c
    exact⟨(e a).1 (m a c),λd=>absurd (d.2.1 c) (by decide)⟩
   .rintro⟨u,d⟩
    apply F9
    intro c
    exact d ⟨u,λr=>absurd r c,λj=>absurd j (by decide)⟩
end
section
open Classical
theorem Ba {a:Arena}(h:a.Owner.length<=256):sX a=some ((GO a.Owner.length).map GE):=by
 unfold sX oy wb
 rw[GA,show decide ((a.Owner.length:Int)<0)=false from by simp]
 simp only[cond_false,GA]
 rw[show decide ((256:Int)<(a.Owner.length:Int))=false from by simp;omega,cond_false,show Int.toNat ((a.Owner.length:Int)-0)=a.Owner.length from by omega]
 obtain⟨b,d,e⟩:=cg (f:=mW) (λc (b:VI)=>b=(GO c).map GE) a.Owner.length (s:=[]) rfl (λc b i g=>by
  subst g
  unfold mW
  rw[app1 (by rw[Gg,GK];omega) rfl,GA]
  exact⟨_,rfl,by rw[GP,FF];rfl⟩)
 rw[d]
 subst e
 have:rng (a.Owner.length:Int)=some ():=by
  unfold rng
  first
   |rfl
   |rw[if_pos (by omega)]
 rw[this];rfl
noncomputable def wonL (n:Nat) (W:Int->Prop):VI:=(GO n).map λ(a:Nat)=>b2i (decide (¬W (a:Int)))
theorem rf (n:Nat) (W:Int->Prop):(wonL n W).length=n:=by unfold wonL;rw[Gg,GK]
theorem yG {n:Nat}{W:Int->Prop}{v:Nat}(h:v<n):(wonL n W)[v]? =some (b2i (decide (¬W (v:Int)))):=by
 unfold wonL
 rw[List.getElem?_map,List.getElem?_range h];rfl
theorem Av {n:Nat}{W:Int->Prop}{l:VI}(c:l.length=n) (h:∀v:Nat,v<n->l[v]? =some (b2i (decide (¬W (v:Int))))):l=wonL n W:=by
 apply Fv
 intro b
 by_cases a:b<n
 .rw[h b a,yG a]
 .rw[GG (by omega),GG (by rw[rf];omega)]
theorem np {g:Parity}{n:Nat}(h:GOk g n) (e:∀a b,idx g.Arena.Next a=some b->b≠[]):GU (gI g) (λa=>0<=a/\a<n):=λa ⟨f,j⟩=>by
 obtain⟨b,c⟩:=cI (xs:=g.Arena.Next) f (by have:=h.ln;omega)
 cases b with
 |nil=>exact absurd rfl (e a [] c)
 |cons d i=>
  refine⟨d,?_,(h.row a _ c).2.2 d (Gi ..)⟩
  show d∈cX g.Arena a
  rw[dV c];exact Gi ..
theorem Cr {g:Parity}{n:Nat}(h:GOk g n) (Q:∀a H,idx g.Arena.Next a=some H->H≠[]):∃W,jn g=some (wonL n W)/\eK g=some (wonL n W)/\GV (gI g) (λa=>0<=a/\a<n) false W:=by
 have ab:=h.n256
 have y:=np h Q
 -- the program
 have l:∀a:Int,a∈(GO n).map GE↔0<=a/\a<n:=λa=>by
  rw[FH]
  constructor
  .rintro⟨w,r,rfl⟩
   rw[GM]at r
   exact⟨Int.natCast_nonneg w,by show(w:Int)<n;omega⟩
  .rintro⟨i,t⟩
   obtain⟨w,r⟩:=dD i
   subst r
   exact⟨w,GM.2 (by omega),rfl⟩
 have v:(λa=>a∈(GO n).map GE)=λa:Int=>0<=a/\a<n:=funext λa=>propext (l a)
 obtain⟨M,O,W,T,s,ac,F,ad,ae⟩:=yE h (L:=(GO n).map GE) (λa E=>(l a).1 E) (by rw[v];exact y)
 rw[v]at s
 refine⟨W,?_,?_,s⟩
 · -- the reference
   obtain⟨P,U,V⟩:=wY h
   have z:=zP h P
   have x:In (FK n true)=λa:Int=>0<=a/\a<n:=funext λa=>propext (yJ a)
   obtain⟨R,X,Y,I⟩:=Cb (h.wfS V (k:=FK n (-1)) (by simp)) h.pri n (FK n true) (2 ^ 64) (by simp) (by rw[x,z];exact y) (by have:=ka (FK n true);simp at this;exact this) (by omega)
   rw[z,x]at I
   have S:=I.uniq s
   unfold jn
   rw[U,GA,Bb h,GA,X,GA,Y]
   obtain⟨c,p,q,j⟩:=cg (f:=lE R) (λb (c:VI)=>c.length=b/\∀d:Nat,d<b->c[d]? =some (b2i (decide (¬W (d:Int))))) n (s:=[]) ⟨rfl,λd A=>absurd A (Gy d)⟩ (λb c C ⟨G,o⟩=>by
    unfold lE
    rw[dC (B:=R) (by omega) (by omega),GA]
    have N:gx (decide (In R (b:Int)))=some (b2i (decide (In R (b:Int)))):=by
     unfold gx
     cases decide (In R (b:Int)) <;> rfl
    rw[N,GA,oW,app1 (by omega) rfl,GA]
    refine⟨_,rfl,by rw[C9];simp;omega,λd A=>?_⟩
    by_cases e:d<b
    .rw[List.getElem?_append_left (by omega)];exact o d e
    .have:d=b:=by omega
     subst this
     rw[List.getElem?_append_right (by omega),G,Nat.sub_self]
     show some _=some _
     congr 2
     rw[← decide_not]
     exact decide_eq_decide.2 (not_congr (S _)))
   rw[p,GA,bV,Av q j]
 .unfold eK
  rw[h.lp,dq (by omega) rfl,GA,Ba (by have:=h.lo;omega),h.lo,GA,T,GA]
  obtain⟨c,p,q,j⟩:=cg (f:=kC (M,O)) (λb (c:VI)=>c.length=n/\∀a:Int,0<=a->a<n->idx c a=some (b2i (decide (a∈O.take b)))) O.length (s:=FK n 0) ⟨by simp,λa i t=>by
   rw[cN i,GH,if_pos (by omega)];simp[b2i]⟩ (λb c C ⟨G,o⟩=>by
   have m:O[b]? =some O[b]:=ct C
   generalize O[b]=u at m
   obtain⟨K,Z⟩:=(l u).1 ((F u).1 (FI m)).1
   obtain⟨af,D,aa⟩:=cY (xs:=c) (i:=u) 1 K (by omega)
   unfold kC
   dsimp only
   rw[bT,m,GA,o u K Z,GA,D,GA]
   refine⟨_,rfl,by omega,λa i t=>?_⟩
   rw[de D,jp m]
   by_cases e:a=u
   .rw[if_pos e];simp[e,b2i]
   .rw[if_neg e,o a i t];simp[e])
  dsimp only
  rw[p,GA,bV]
  congr 1
  rw[Gx]at j
  refine Av q λa E=>?_
  rw[← bT,j _ (by omega) (by omega)]
  congr 2
  refine decide_eq_decide.2 ?_
  rw[F,l]
  exact⟨λh=>h.2,λh=>⟨⟨by omega,by omega⟩,h⟩⟩
theorem pu {g:Parity}(hp:c8 g=true):∀c a,idx g.Arena.Next c=some a->a≠[]:=λc a b d=>by
 obtain⟨k,l,m,n,e⟩:=dZ hp
 obtain⟨j,_⟩:=cO b
 obtain⟨i,f⟩:=dD j
 subst f
 rw[bT]at b
 have:=(e i a b).1
 rw[d]at this
 simp at this
end
end Go.Proofs.YtldlmopdhmaceaaGreatDoor
namespace Go.Proofs.YtldlmopdhmaceaaGreatDoor.Par
section
open Classical
variable {G H:Gm}{X Y C T W W' D:Int->Prop}{p:Bool}{w w':Int->Bool}{k k':Int->Int}
theorem Dom.self (h:Dom G X p D):Dom G D p D:=by
 obtain⟨f,g,a,i,b⟩:=h
 exact⟨f,λe d=>d,a,λe j _ _ _ c=>c,b⟩
theorem Dom.congrG (h:Dom G X p D) (i:∀a,D a->H.own a=G.own a) (hp:∀a,D a->H.pri a=G.pri a) (g:∀a d,D a->(H.E a d↔G.E a d)):Dom H X p D:=by
 obtain⟨l,m,o,q,r⟩:=h
 refine⟨l,m,λa c b=>?_,λa d c b y B=>?_,λe k=>?_⟩
 .rw[i a c]at b
  have:=o a c b
  exact⟨(g a _ c).2 this.1,this.2⟩
 .rw[i a c]at b
  exact q a d c b ((g a d c).1 y) B
 .have A:Play G p D l e:=λn=>by
   obtain⟨f,s,t⟩:=k n
   exact⟨f,(g _ _ f).1 s,λb=>t (by rw[i _ f];exact b)⟩
  obtain⟨x,u,v,N,w⟩:=r e A
  have j:∀n,H.pri (e n)=G.pri (e n):=λn=>hp _ (k n).1
  exact⟨x,u,λM=>by obtain⟨n,C,E⟩:=v M;exact⟨n,C,by rw[j];exact E⟩,N,λn z=>by rw[j];exact w n z⟩
theorem Sol.congrG (h:Sol G X p W) (e:∀a,X a->H.own a=G.own a) (hp:∀a,X a->H.pri a=G.pri a) (d:∀a c,X a->(H.E a c↔G.E a c)):Sol H X p W:=
 ⟨h.sub,h.mine.congrG (λa b=>e a (h.sub a b)) (λa b=>hp a (h.sub a b)) (λa c b=>d a c (h.sub a b)),
  h.yours.congrG (λa b=>e a b.1) (λa b=>hp a b.1) (λa c b=>d a c b.1)⟩
theorem hold_iff {R:Int->Prop}{q:Bool}(b:Sol G Y false R):(∀x,Y x->(R x↔q=false))↔Dom G Y q Y:=by
 constructor
 .intro h
  cases q with
  |false=>exact b.mine.congr λc=>⟨b.sub c,λa=>(h c a).2 rfl⟩
  |true=>exact b.yours.congr λc=>⟨λa=>a.1,λa=>⟨a,λf=>absurd ((h c a).1 f) (by decide)⟩⟩
 .intro h x d
  have:=b.uniq ((Sol.all h).asP false) x
  rw[this]
  exact⟨λh=>(h.2.1 d).symm,λe=>⟨d,λ_=>e.symm,λ_=>d⟩⟩
def pickG (G:Gm) (k:Int->Int):Gm:=⟨G.own,G.pri,λa b=>G.E a b/\(k a<0\/k a=b)⟩
def Rg (X:Int->Prop) (w:Int->Bool) (q:Bool):Int->Prop:=λa=>X a/\w a=q
def updF (k:Int->Int) (v u:Int):Int->Int:=λx=>if x=v then u else k x
structure PInv (G:Gm) (X:Int->Prop) (w:Int->Bool) (k:Int->Int):Prop where
 pick:∀v,0<=k v->X v/\G.own v=w v/\G.E v (k v)/\X (k v)/\w (k v)=w v
 dom:∀q,Dom (pickG G k) (Rg X w q) q (Rg X w q)
 yours:∀v u,X v->¬G.own v=w v->G.E v u->X u->w u=w v
theorem Sol.rg (h:Sol G X false W) (c:∀b,X b->(w b=false↔W b)) (q:Bool):Dom G X q (Rg X w q):=by
 cases q with
 |false=>exact h.mine.congr λb=>⟨λa=>⟨h.sub b a,(c b (h.sub b a)).2 a⟩,λa=>(c b a.1).1 a.2⟩
 |true=>exact h.yours.congr λb=>⟨λa=>⟨a.1,by
  cases d:w b with
  |true=>rfl
  |false=>exact absurd ((c b a.1).1 d) a.2⟩,λa=>⟨a.1,λe=>by
  have:=(c b a.1).2 e
  rw[a.2]at this
  cases this⟩⟩
theorem PInv.start (h:Sol G X false W) (d:∀a,X a->(w a=false↔W a)) (b:∀a,k a<0):PInv G X w k:=by
 refine⟨λa c=>absurd (b a) (by omega),λl=>((h.rg d l).self).congrG (λ_ _=>rfl) (λ_ _=>rfl) λa e _=>⟨λh=>h.1,λh=>⟨h,.inl (b a)⟩⟩,λa e c i g j=>?_⟩
 obtain⟨p,m,n,f,o⟩:=h.rg d (w a)
 exact(f a e ⟨c,rfl⟩ i g j).2
theorem PInv.ex (t:PInv G X w k){v:Int}(z:X v) (y:G.own v=w v) (u:k v<0):∃c,G.E v c/\X c/\w c=w v/\Dom (pickG G (updF k v c)) (Rg X w (w v)) (w v) (Rg X w (w v)):=by
 obtain⟨l,m,f,C,o⟩:=t.dom (w v)
 obtain⟨⟨q,_⟩,r,s⟩:=f v ⟨z,rfl⟩ y
 refine⟨l v,q,r,s,l,m,λx i g=>?_,λx E i g D A=>A,λj B=>o j λn=>?_⟩
 .obtain⟨⟨d,e⟩,b⟩:=f x i g
  refine⟨⟨d,?_⟩,b⟩
  unfold updF
  by_cases a:x=v
  .rw[if_pos a,a];exact .inr rfl
  .rw[if_neg a];exact e
 .obtain⟨d,⟨e,b⟩,p⟩:=B n
  refine⟨d,⟨e,?_⟩,p⟩
  unfold updF at b
  by_cases a:j n=v
  .rw[a];exact .inl u
  .rwa [if_neg a]at b
theorem PInv.step (c:PInv G X w k){v u:Int}(m:X v) (l:G.own v=w v) (f:G.E v u) (g:X u) (i:w u=w v) (j:Dom (pickG G (updF k v u)) (Rg X w (w v)) (w v) (Rg X w (w v))):PInv G X w (updF k v u):=by
 refine⟨λx b=>?_,λd=>?_,c.yours⟩
 .by_cases a:x=v
  .subst a
   have:updF k x u x=u:=if_pos rfl
   rw[this];exact⟨m,l,f,g,i⟩
  .have:updF k v u x=k x:=if_neg a
   rw[this]at b ⊢;exact c.pick x b
 .by_cases a:d=w v
  .subst a;exact j
  .refine(c.dom d).congrG (λ_ _=>rfl) (λ_ _=>rfl) λx n b=>?_
   have:x≠v:=λe=>a (by rw[← b.2,e])
   have:updF k v u x=k x:=if_neg this
   show _/\_↔_/\_
   rw[this]
theorem PInv.noDead (b:PInv G X w k) (t:NoDead G X){v u:Int}(p:G.E v u) (r:X u) (s:w u=w v) (q:Bool):NoDead (pickG G (updF k v u)) (Rg X w q):=λx ⟨d,a⟩=>by
 by_cases g:x=v
 .subst g;exact⟨u,⟨p,.inr (if_pos rfl)⟩,r,by rw[s,a]⟩
 .have i:updF k v u x=k x:=if_neg g
  by_cases c:G.own x=w x
  .obtain⟨y,_,l,_⟩:=b.dom q
   obtain⟨⟨m,n⟩,o⟩:=l x ⟨d,a⟩ (by show G.own x=q;rw[c,a])
   exact⟨y x,⟨m,by rw[i];exact n⟩,o⟩
  .obtain⟨j,e,f⟩:=t x d
   refine⟨j,⟨e,.inl ?_⟩,f,by rw[b.yours x j d c e f,a]⟩
   rw[i]
   apply F9
   intro z
   exact c (b.pick x (by omega)).2.1
inductive Rch (H:Gm) (Y:Int->Prop):Int->Int->Prop
 |refl {v:Int}:Y v->Rch H Y v v
 |step {v u x:Int}:Y v->H.E v u->Rch H Y u x->Rch H Y v x
def Loop (H:Gm) (Y:Int->Prop) (v:Int):Prop:=∃a,H.E v a/\Rch H Y a v
theorem Rch.fst {v x:Int}(h:Rch H Y v x):Y v:=by cases h <;> assumption
theorem Rch.lst {v x:Int}(h:Rch H Y v x):Y x:=by induction h with
 |refl h=>exact h
 |step _ _ _ a=>exact a
theorem Rch.snoc {v x y:Int}(h:Rch H Y v x) (a:H.E x y) (d:Y y):Rch H Y v y:=by induction h with
 |refl h=>exact .step h a (.refl d)
 |step b c _ e=>exact .step b c (e a)
theorem Rch.mono {H':Gm}{Y':Int->Prop}{v x:Int}(h:Rch H Y v x) (d:∀a,Y a->Y' a) (g:∀a b,Y a->Y b->H.E a b->H'.E a b):Rch H' Y' v x:=by induction h with
 |refl h=>exact .refl (d _ h)
 |step c e f i=>exact .step (d _ c) (g _ _ c f.fst e) i
theorem Loop.mono {H':Gm}{Y':Int->Prop}{v:Int}(h:Loop H Y v) (g:∀a,Y a->Y' a) (d:∀a b,Y a->Y b->H.E a b->H'.E a b):Loop H' Y' v:=by
 obtain⟨e,f,c⟩:=h
 exact⟨e,d v e c.lst c.fst f,c.mono g d⟩
theorem Rch.path {v x:Int}(h:Rch H Y v x):∃(m:Nat) (f:Nat->Int),f 0=v/\f m=x/\(∀a,a<m->H.E (f a) (f (a+1)))/\∀a,a<=m->Y (f a):=by induction h with
 | @refl v h=>exact⟨0,λ_=>v,rfl,rfl,λa b=>absurd b (Gy a),λ_ _=>h⟩
 | @step v l x i j _ k=>
  obtain⟨m,f,c,d,e,g⟩:=k
  refine⟨m+1,λa=>match a with | 0=>v | a+1=>f a,rfl,d,λa b=>?_,λa b=>?_⟩
  .cases a with
   |zero=>show H.E v (f 0);rw[c];exact j
   |succ a=>exact e a (by omega)
  .cases a with
   |zero=>exact i
   |succ a=>exact g a (by omega)
theorem Rch.ofPath {f:Nat->Int}(d:∀b,H.E (f b) (f (b+1))){a:Nat}(c:∀b,a<=b->Y (f b)) (m:Nat):Rch H Y (f a) (f (a+m)):=by induction m with
 |zero=>exact .refl (c a (by omega))
 |succ m e=>exact e.snoc (d _) (c _ (by omega))
def Io (S:Nat->Prop):Prop:=∀N,∃a,N<=a/\S a
theorem Io.val {f:Nat->Int}:∀(n:Nat){S:Nat->Prop},Io S->(∀a,S a->0<=f a/\f a<n)->∃g,Io λa=>S a/\f a=g:=by
 intro n
 induction n with
 |zero=>
  intro S d e
  obtain⟨a,_,b⟩:=d 0
  have:=e a b
  omega
 |succ n o=>
  intro S d e
  by_cases h:Io λa=>S a/\f a=(n:Int)
  .exact⟨n,h⟩
  .obtain⟨N,l⟩:=GD.1 h
   obtain⟨g,m⟩:=o (S:=λa=>S a/\N<=a) (λM=>by
    obtain⟨a,i,c⟩:=d (max M N)
    exact⟨a,by omega,c,by omega⟩) (λa b=>by
    have:=e a b.1
    have:¬f a=(n:Int):=λj=>l ⟨a,b.2,b.1,j⟩
    omega)
   exact⟨g,λM=>by
    obtain⟨a,i,c,k⟩:=m M
    exact⟨a,i,c.1,k⟩⟩
theorem CP {f:Nat->Int}:∀(b:Nat) (N:Nat),(∀a,N<=a->0<=f a/\f a<b)->∃c,(∀N,∃n,N<=n/\f n=c)/\∃N,∀n,N<=n->f n<=c:=by
 intro b
 induction b with
 |zero=>
  intro N h
  have:=h N (by omega)
  omega
 |succ b j=>
  intro N h
  by_cases d:∀N,∃n,N<=n/\f n=(b:Int)
  .exact⟨b,d,N,λn i=>by have:=h n i;omega⟩
  .obtain⟨M,g⟩:=GD.1 d
   refine j (max N M) λa k=>?_
   have:=h a (by omega)
   have:¬f a=(b:Int):=λe=>g ⟨a,by omega,e⟩
   omega
structure Ans (G:Gm) (X:Int->Prop) (w:Int->Bool) (k:Int->Int):Prop where
 mine:∀v,X v->G.own v=w v->0<=k v/\G.E v (k v)/\X (k v)/\w (k v)=w v
 free:∀v,X v->¬G.own v=w v->k v<0
 yours:∀v u,X v->¬G.own v=w v->G.E v u->X u->w u=w v
 noloop:∀v,X v->¬oddP (G.pri v)=w v->¬Loop (pickG G k) (λx=>Rg X w (w v) x/\G.pri x<=G.pri v) v
theorem Ans.wins (h:Ans G X w k){n b:Nat}(E:∀c,X c->0<=c/\c<n) (hp:∀c,X c->0<=G.pri c/\G.pri c<b){q:Bool}{π:Nat->Int}(j:Play G q (Rg X w q) k π):Wins G q π:=by
 obtain⟨m,s,N,t⟩:=CP (f:=λn=>G.pri (π n)) b 0 λg _=>hp _ (j g).1.1
 refine⟨m,?_,s,N,t⟩
 apply F9
 intro F
 obtain⟨c,z⟩:=Io.val (f:=π) n (S:=λg=>N<=g/\G.pri (π g)=m) (λM=>by
  obtain⟨g,L,D⟩:=s (max M N)
  exact⟨g,by omega,by omega,D⟩) (λg _=>E _ (j g).1.1)
 obtain⟨d,_,⟨I,i⟩,l⟩:=z 0
 obtain⟨p,K,_,C⟩:=z (d+1)
 have i:G.pri (π d)=m:=i
 rw[l]at i
 have o:Rg X w q c:=by rw[← l];exact(j d).1
 have u:∀e,(pickG G k).E (π e) (π (e+1)):=λe=>by
  obtain⟨r,A,B⟩:=j e
  refine⟨A,?_⟩
  by_cases v:G.own (π e)=q
  .exact .inr (B v).symm
  .exact .inl (h.free _ r.1 (by rw[r.2];exact v))
 have y:=Rch.ofPath (H:=pickG G k) (Y:=λx=>Rg X w (w c) x/\G.pri x<=G.pri c) (f:=π) u (a:=d+1) (λe O=>⟨by rw[o.2];exact(j e).1,by rw[i];exact t e (by omega)⟩) (p-(d+1))
 rw[show d+1+(p-(d+1))=p from by omega,C]at y
 refine h.noloop c o.1 (by rw[o.2,i];exact F) ⟨π (d+1),?_,y⟩
 have:=u d
 rwa [l]at this
theorem Ans.dom (h:Ans G X w k){n b:Nat}(j:∀a,X a->0<=a/\a<n) (hp:∀a,X a->0<=G.pri a/\G.pri a<b) (q:Bool):Dom G X q (Rg X w q):=by
 refine⟨k,λa c=>c.1,λa c d=>?_,λa o c d l e=>⟨e,?_⟩,λr m=>h.wins j hp m⟩
 .obtain⟨p,f,g,i⟩:=h.mine a c.1 (by rw[d,c.2])
  exact⟨f,g,by rw[i,c.2]⟩
 .rw[h.yours a o c.1 (by rw[c.2];exact d) l e,c.2]
theorem Ans.sol (h:Ans G X w k){n b:Nat}(e:∀a,X a->0<=a/\a<n) (hp:∀a,X a->0<=G.pri a/\G.pri a<b):Sol G X false (Rg X w false):=by
 refine⟨λa i=>i.1,h.dom e hp false,(h.dom e hp true).congr λa=>?_⟩
 constructor
 .rintro⟨c,d⟩
  exact⟨c,λg=>absurd (d.symm.trans g.2) (by decide)⟩
 .rintro⟨c,d⟩
  refine⟨c,?_⟩
  cases f:w a with
  |true=>rfl
  |false=>exact absurd ⟨c,f⟩ d
theorem PInv.ans (n:PInv G X w k) (x:∀c,X c->G.own c=w c->0<=k c):Ans G X w k:=by
 refine⟨λc r f=>⟨x c r f,(n.pick c (x c r f)).2.2⟩,λc r f=>?_,n.yours,λc r f O=>?_⟩
 .apply F9
  intro ad
  exact f (n.pick c (by omega)).2.1
 .obtain⟨R,S,E,T,F⟩:=n.dom (w c)
  obtain⟨ag,o,p⟩:=O
  obtain⟨Q,U,V,Y,W,Z⟩:=(Rch.step p.lst o p).path
  -- the loop has at least one step
  have ac:0<Q\/True:= .inr trivial
  obtain⟨b,g,u,m,A,M⟩:=p.path
  let d:Nat->Int:=λa=>if a % (b+1)=0 then c else g (a % (b+1)-1)
  have l:∀a,a % (b+1)=0->d a=c:=λa v=>if_pos v
  have s:∀a,a % (b+1)≠0->d a=g (a % (b+1)-1):=λa v=>if_neg v
  have j:∀a,Rg X w (w c) (d a)/\G.pri (d a)<=G.pri c:=λa=>by
   by_cases e:a % (b+1)=0
   .rw[l a e];exact p.lst
   .rw[s a e]
    exact M _ (by have:=Nat.mod_lt a (show 0<b+1 by omega);omega)
  have B:∀a,(pickG G k).E (d a) (d (a+1)):=λa=>by
   have ab:=Nat.mod_lt a (show 0<b+1 by omega)
   have q:(a+1) % (b+1)=if a % (b+1)=b then 0 else a % (b+1)+1:=by
    rw[Nat.add_mod]
    by_cases e:a % (b+1)=b
    .rw[if_pos e,e]
     cases b with
     |zero=>simp
     |succ b=>rw[GR (show 1<b+1+1 by omega),Nat.mod_self]
    .rw[if_neg e,GR (show 1<b+1 by omega),GR (by omega)]
   by_cases e:a % (b+1)=b
   .rw[if_pos e]at q
    rw[l (a+1) q]
    by_cases i:a % (b+1)=0
    .rw[l a i]
     have:b=0:=by omega
     subst this
     rw[← m,u]at o ⊢
     rw[u]at m
     rw[← m]at *
     exact o
    .rw[s a i,e,← m]
     have:=A (b-1) (by omega)
     rwa [show b-1+1=b from by omega]at this
   .rw[if_neg e]at q
    rw[s (a+1) (by omega),q]
    by_cases i:a % (b+1)=0
    .rw[l a i,i,Nat.zero_add,Nat.sub_self,u];exact o
    .rw[s a i]
     have:=A (a % (b+1)-1) (by omega)
     rwa [show a % (b+1)-1+1=a % (b+1)+1-1 from by omega]at this
  have P:Play (pickG G k) (w c) (Rg X w (w c)) R d:=λa=>by
   refine⟨(j a).1,B a,λC=>?_⟩
   have f:G.own (d a)=w (d a):=by rw[(j a).1.2];exact C
   have aa:=x _ (j a).1.1 f
   have K:=(B a).2.resolve_left (by omega)
   have L:=(E _ (j a).1 C).1.2.resolve_left (by omega)
   rw[← K,← L]
  obtain⟨t,z,H,N,I⟩:=F d P
  obtain⟨a,ae,D⟩:=H N
  have af:=(j a).2
  have y:=I ((b+1) * N) (by
   have:=Nat.le_mul_of_pos_left N (show 0<b+1 by omega)
   exact this)
  rw[l _ (Nat.mul_mod_right _ _)]at y
  have D:G.pri (d a)=t:=D
  have y:G.pri c<=t:=y
  have:t=G.pri c:=by omega
  rw[this]at z
  exact f z
end
end Go.Proofs.YtldlmopdhmaceaaGreatDoor.Par
namespace Go.Proofs.YtldlmopdhmaceaaGreatDoor
open Go Go.Wk Go.Proofs
section
open Classical
def pkL (k:VI) (v:Int):Int:=(idx k v).getD (-1)
theorem rP {k:VI}{v x:Int}(h:idx k v=some x):pkL k v=x:=by unfold pkL;rw[h];rfl
theorem td {k k':VI}{v u:Int}(h:setI k v u=some k'):pkL k'=Par.updF (pkL k) v u:=by
 funext w
 unfold pkL Par.updF
 rw[de h]
 by_cases a:w=v
 .rw[if_pos a,if_pos a];rfl
 .rw[if_neg a,if_neg a]
theorem pq {k:VI}{n:Nat}(d:k.length=n){v:Int}(b:0<=v) (c:v<n):idx k v=some (pkL k v):=by
 obtain⟨x,a⟩:=cI (xs:=k) b (by omega)
 rw[rP a];exact a
def Xn (n:Nat):Int->Prop:=λa=>0<=a/\a<n
theorem pt {a:Arena}{v:Int}(h:idx a.Next v=none):cX a v=[]:=by unfold cX;rw[h];rfl
section
variable {g:Parity}{n:Nat}(h:GOk g n)
include h
theorem EN {v u:Int}(a:(gI g).E v u):Xn n v/\Xn n u:=by
 have a:u∈cX g.Arena v:=a
 cases b:idx g.Arena.Next v with
 |none=>rw[pt b]at a;cases a
 |some c=>
  rw[dV b]at a
  obtain⟨d,e⟩:=cO b
  have:=h.ln
  exact⟨⟨d,by omega⟩,(h.row v c b).2.2 u a⟩
theorem CF (P:VV){k:VI}(b:k.length=n):gS ⟨g.Arena.Owner,g.Prio,g.Arena.Next,P,k⟩=Par.pickG (gI g) (pkL k):=by
 unfold gS gI Par.pickG mkG
 dsimp only
 congr 1
 funext v u
 apply propext
 cases a:idx g.Arena.Next v with
 |none=>
  rw[pt a]
  unfold rowS
  dsimp only
  rw[a]
  simp
 |some e=>
  obtain⟨d,f⟩:=cO a
  have c:=pq b d (by have:=h.ln;omega)
  rw[dV a,tf (x:=⟨g.Arena.Owner,g.Prio,g.Arena.Next,P,k⟩) a c,Gj]
  unfold okE
  simp
end
theorem tE {g:Parity}(hp:c8 g=true):lJ g.Arena=some g.Arena:=by
 obtain⟨l,m,n,o,i⟩:=dZ hp
 unfold lJ oo
 rw[appL (by rw[Gh];omega) rfl,GA]
 obtain⟨b,d,e⟩:=cg (f:=iP g.Arena.Next) (λa b=>b=g.Arena.Next.take a) g.Arena.Next.length (s:=[]) rfl (λa b j k=>by
  subst k
  have c:g.Arena.Next[a]? =some g.Arena.Next[a]:=by simp[j]
  have:=i a _ c
  unfold iP
  rw[bT,c,GA,appL (by rw[Gh];omega) rfl,GA,app1 (by rw[FE];omega) rfl]
  refine⟨_,rfl,?_⟩
  rw[Gv,c];rfl)
 rw[d,e,Gx,GA,bV,GA]
 rfl
theorem wd {g:Parity}{n:Nat}(hp:c8 g=true) (w:n=g.Prio.length){k:VI}(p:k.length=n):∃d,pa g.Arena k=some ⟨g.Arena.Owner,d⟩/\d.length=n/\∀a c,idx g.Arena.Next a=some c->idx d a=some (if 0<=pkL k a then[pkL k a] else c):=by
 have h:=GOk.of hp
 rw[← w]at h
 unfold pa
 rw[tE hp,GA,p]
 obtain⟨d,s,t,u⟩:=cg (f:=kp k) (λe (d:VV)=>d.length=n/\∀a c,idx g.Arena.Next a=some c->idx d a=some (if a<e/\0<=pkL k a then[pkL k a] else c)) n (s:=g.Arena.Next) ⟨h.ln,λa c j=>by
  have:=(cO j).1
  rw[if_neg (by omega)];exact j⟩ (λe d z ⟨y,r⟩=>by
  have v:=pq p (v:=(e:Int)) (by omega) (by omega)
  obtain⟨B,x⟩:=cI (xs:=d) (i:=(e:Int)) (by omega) (by omega)
  obtain⟨C,q,A⟩:=cY (xs:=d) (i:=(e:Int)) [pkL k e] (by omega) (by omega)
  unfold kp
  rw[v,GA,x,GA,q,GA]
  by_cases m:0<=pkL k e
  .rw[decide_eq_true m,cond_true,GA]
   refine⟨_,rfl,by omega,λa c j=>?_⟩
   rw[de q]
   by_cases o:a=e
   .subst o
    rw[if_pos rfl,if_pos ⟨by omega,m⟩]
   .rw[if_neg o,r a c j]
    by_cases b:0<=pkL k a
    .by_cases l:a<e
     .rw[if_pos ⟨l,b⟩,if_pos ⟨by omega,b⟩]
     .rw[if_neg (λh=>l h.1),if_neg (λh=>by have:=h.1;omega)]
    .rw[if_neg (λh=>b h.2),if_neg (λh=>b h.2)]
  .rw[decide_eq_false m,cond_false,GA]
   refine⟨_,rfl,y,λa c j=>?_⟩
   rw[r a c j]
   by_cases b:0<=pkL k a
   .by_cases l:a<e
    .rw[if_pos ⟨l,b⟩,if_pos ⟨by omega,b⟩]
    .have:a≠e:=λo=>m (o ▸ b)
     rw[if_neg (λh=>l h.1),if_neg (λh=>by have:=h.1;omega)]
   .rw[if_neg (λh=>b h.2),if_neg (λh=>b h.2)])
 rw[s,GA,bV]
 refine⟨d,rfl,t,λa c j=>?_⟩
 rw[u a c j]
 have:=(cO j).2
 have:=h.ln
 by_cases b:0<=pkL k a
 .rw[if_pos ⟨by omega,b⟩,if_pos b]
 .rw[if_neg (λh=>b h.2),if_neg b]
theorem Da {g:Parity}{n:Nat}(hp:c8 g=true) (s:n=g.Prio.length){k:VI}(v:k.length=n) (r:∀b,0<=pkL k b->(gI g).E b (pkL k b)):∃q,qA g k=some q/\GOk q n/\gI q=Par.pickG (gI g) (pkL k):=by
 have h:=GOk.of hp
 rw[← s]at h
 obtain⟨p,x,y,u⟩:=wd hp s v
 unfold qA
 rw[x,GA,appL (by rw[Gh];have:=h.n256;omega) rfl,GA]
 have t:∀b f,idx p b=some f->∃d,idx g.Arena.Next b=some d/\f=if 0<=pkL k b then[pkL k b] else d:=λb f e=>by
  obtain⟨A,B⟩:=cO e
  obtain⟨d,c⟩:=cI (xs:=g.Arena.Next) (i:=b) A (by have:=h.ln;omega)
  refine⟨d,c,?_⟩
  rw[u b d c]at e
  exact(GS e).symm
 refine⟨_,rfl,⟨h.n256,h.lo,h.lp,y,h.ow,λb f e=>?_,h.pri⟩,?_⟩
 .obtain⟨d,c,l⟩:=t b f e
  by_cases j:0<=pkL k b
  .rw[if_pos j]at l
   have o:pkL k b∈cX g.Arena b:=r b j
   rw[dV c]at o
   subst l
   refine⟨by simp,by simp,λz m=>?_⟩
   rw[E7]at m
   subst m
   exact(h.row b d c).2.2 _ o
  .rw[if_neg j]at l
   subst l
   exact h.row b f c
 .unfold gI Par.pickG mkG
  dsimp only
  congr 1
  funext b z
  apply propext
  cases c:idx g.Arena.Next b with
  |none=>
   have:idx p b=none:=by
    cases w:idx p b with
    |none=>rfl
    |some f=>
     obtain⟨d,e,_⟩:=t b f w
     rw[c]at e;cases e
   rw[pt c,pt (a:=⟨g.Arena.Owner,p⟩) this]
   simp
  |some d=>
   rw[dV c,dV (a:=⟨g.Arena.Owner,p⟩) (u b d c)]
   by_cases j:0<=pkL k b
   .rw[if_pos j,E7]
    have o:pkL k b∈cX g.Arena b:=r b j
    rw[dV c]at o
    constructor
    .intro l;subst l;exact⟨o,.inr rfl⟩
    .rintro⟨_,h|h⟩
     .omega
     .exact h.symm
   .rw[if_neg j]
    exact⟨λm=>⟨m,.inl (by omega)⟩,λm=>m.1⟩
theorem Du {x:l7Game}{n:Nat}(wf:WfS x n) (hp:PriOk x.prio){B:VB}(hB:B.length=n) (i:GU (gS x) (In B)) (q:Bool):rZ x B (b2i q)=some (decide (Par.Dom (gS x) (In B) q (In B))):=by
 have v:=wf.n256
 obtain⟨R,o,w,s⟩:=Cb wf hp n B (2 ^ 64) hB i (by have:=ka B;omega) (by omega)
 unfold rZ
 rw[o,GA]
 have j:=Par.hold_iff (q:=q) s
 have m:=mD (f:=nP B (b2i q) R) (r:=false) (λa c=> !(c&&(decide (In R (a:Int)) != !q))) (xs:=B) (n:=B.length) rfl (λa c e=>by
  have u:=(C7.1 e).1
  unfold nP
  rw[bT,e,GA,dC (B:=R) (by omega) (by omega),GA,qi]
  cases c <;> cases(decide (In R (a:Int)) != !q) <;> rfl)
 rw[m,GA]
 have:(B.zipIdx.all λp=> !(p.1&&(decide (In R (p.2:Int)) != !q)))=decide (Par.Dom (gS x) (In B) q (In B)):=by
  rw[F6,decide_eq_true_iff,← j,List.all_eq_true]
  constructor
  .intro ha y d
   obtain⟨t,z⟩:=fl hB d
   obtain⟨a,k⟩:=dD t
   subst k
   have g:idx B (a:Int)=some true:=d
   rw[bT]at g
   have:=ha (true,a) (by rw[Gl];exact g)
   dsimp only at this
   by_cases b:In R (a:Int)
   .rw[decide_eq_true b]at this
    cases q with
    |true=>simp at this
    |false=>exact⟨λ_=>rfl,λ_=>b⟩
   .rw[decide_eq_false b]at this
    cases q with
    |true=>exact⟨λh=>absurd h b,λh=>absurd h (by decide)⟩
    |false=>simp at this
  .rintro l ⟨c,a⟩ hp
   rw[Gl]at hp
   dsimp only at hp ⊢
   cases c with
   |false=>rfl
   |true=>
    have d:In B (a:Int):=by unfold In;rw[bT];exact hp
    have:=l _ d
    by_cases b:In R (a:Int)
    .rw[decide_eq_true b,this.1 b];rfl
    .rw[decide_eq_false b]
     cases q with
     |true=>rfl
     |false=>exact absurd (this.2 rfl) b
 rw[this]
 cases decide (Par.Dom (gS x) (In B) q (In B)) <;> rfl
end
section
open Classical
noncomputable def wB (W:Int->Prop) (v:Int):Bool:=decide (¬W v)
theorem Co {W:Int->Prop}{v:Int}:wB W v=false↔W v:=by unfold wB;simp
theorem lF {n:Nat}{W:Int->Prop}{v:Int}(h:Xn n v):idx (wonL n W) v=some (b2i (wB W v)):=by
 obtain⟨a,c⟩:=h
 obtain⟨d,b⟩:=dD a
 subst b
 rw[bT,yG (by omega)];rfl
theorem sa {k:Int->Int}{v a b:Int}:Par.updF (Par.updF k v a) v b=Par.updF k v b:=by
 funext x
 unfold Par.updF
 by_cases c:x=v
 .rw[if_pos c,if_pos c]
 .rw[if_neg c,if_neg c,if_neg c]
theorem vL {k:Int->Int}{v a:Int}(h:k v=a):Par.updF k v a=k:=by
 funext x
 unfold Par.updF
 by_cases b:x=v
 .rw[if_pos b,b,h]
 .rw[if_neg b]
theorem Ae {a b:VI}{n:Nat}(ha:a.length=n) (f:b.length=n) (h:pkL a=pkL b):a=b:=by
 apply Fv
 intro c
 by_cases g:c<n
 .have d:=pq ha (v:=(c:Int)) (by omega) (by omega)
  have e:=pq f (v:=(c:Int)) (by omega) (by omega)
  rw[bT]at d e
  rw[d,e,h]
 .rw[GG (by omega),GG (by omega)]
theorem xD {C:Int->Prop}:∀{row:VI},(∃u,u∈row/\C u)->∃(i:Nat) (u:Int),row[i]? =some u/\C u/\∀(j:Nat) a,j<i->row[j]? =some a->¬C a
 | [],h=>by obtain⟨u,c,_⟩:=h;cases c
 |x::r,h=>by
  by_cases d:C x
  .exact⟨0,x,rfl,d,λj a f=>absurd f (Gy j)⟩
  .obtain⟨i,u,k,l,m⟩:=xD (C:=C) (row:=r) (by
    obtain⟨u,c,e⟩:=h
    rcases E5.1 c with b|b
    .subst b;exact absurd e d
    .exact⟨u,b,e⟩)
   refine⟨i+1,u,by simpa using k,l,λj a f g=>?_⟩
   cases j with
   |zero=>
    have:x=a:=by simpa using g
    subst this;exact d
   |succ j=>exact m j a (by omega) (by simpa using g)
theorem Ac {g:Parity}{n:Nat}(h:GOk g n){v:Int}(b:Xn n v):idx g.Arena.Owner v=some (b2i ((gI g).own v)):=by
 obtain⟨c,a⟩:=cI (xs:=g.Arena.Owner) (i:=v) b.1 (by have:=h.lo;have:=b.2;omega)
 rw[a]
 show _=some (b2i (ownL g.Arena.Owner v))
 unfold ownL
 rw[a]
 rcases h.ow v c a with rfl|rfl <;> rfl
end
end Go.Proofs.YtldlmopdhmaceaaGreatDoor
