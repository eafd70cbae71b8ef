/- Who wins where: both sides find the same. -/
import Derived.Test.YtpcjbkgbnoocaaaL1FR
import Derived.Test.YtpcjbkgbnoocaaaL0FR
set_option linter.unusedVariables false
set_option linter.unusedSimpArgs false
open Option renaming bind → br, bind_some → bt
open List renaming getElem?_eq_getElem → bB, getElem?_eq_some_iff → gs, replicate → hV, mem_of_getElem? → it, getElem?_replicate → vt, length_append → vx, mem_singleton → vy, length_cons → vA, length_take → vB, length_nil → vC, getElem?_eq_none → vE, mem_append → vF, take_add_one → vG, length_map → vI
open Bool renaming and_eq_true → vv, not_true → vw, eq_iff_iff → vD
namespace Go.Proofs.Ytpcjbkgbnoocaaa
open Go Go.Wk Go.Proofs
structure GOk (g:Parity) (n:Nat):Prop where
 n256:n<=256
 lo:g.Arena.Owner.length=n
 lp:g.Prio.length=n
 ln:g.Arena.Next.length=n
 ow:∀v o,idx g.Arena.Owner v=some o->o=0\/o=1
 row:∀v r,idx g.Arena.Next v=some r->r.length<=16/\r.Nodup/\∀u∈r,0<=u/\u<n
 pri:PriOk g.Prio
theorem r6 {α:Type}{xs:List α}{v:Int}{x:α}(h:idx xs v=some x):x∈xs:=by
 obtain⟨h0,_⟩:=ci h
 rw[cD h0]at h
 exact it h
theorem GOk.of {g:Parity}(h:cn g=true):GOk g g.Prio.length:=by
 obtain⟨h1,h2,h3,h4,h5⟩:=dq h
 obtain⟨hO,hP⟩:=nZ h
 refine⟨by omega,by omega,rfl,by omega,λv o ho=>?_,λv r hr=>?_,λv q hq=>?_⟩
 · have:=ej.1 (hO o (r6 ho))
   omega
 · obtain⟨v0,_⟩:=ci hr
   obtain⟨i,hi⟩:=dr v0
   subst hi
   rw[bC]at hr
   obtain⟨r1,r2,r3⟩:=h5 i r hr
   obtain⟨r4,r5⟩:=fl.1 r3
   exact⟨r2,gw r5,λu hu=>by have:=r4 u hu;omega⟩
 · have:=ej.1 (hP q (r6 hq))
   omega
section
variable {g:Parity}{n:Nat}(h:GOk g n)
include h
theorem rt:∃P,mP g.Arena=some P/\PrevT g.Arena.Next n n P:=by
 have hn:=h.n256
 unfold mP
 rw[h.lo,cO (by omega) rfl,bt,h.ln]
 obtain⟨s,h1,h2⟩:=bO (f:=kc g.Arena) (λj (s:List (List Int))=>PrevT g.Arena.Next n j s) n (s:=hV n []) PrevT.zero (λj s hj hs=>by
  have hr:g.Arena.Next[j]? =some (g.Arena.Next[j]'(by rw[h.ln];exact hj)):=bB (by rw[h.ln];exact hj)
  generalize g.Arena.Next[j]'(by rw[h.ln];exact hj)=row at hr
  obtain⟨r1,r2,r3⟩:=h.row (j:Int) row (by rw[bC];exact hr)
  unfold kc
  rw[bC,hr,bt]
  obtain⟨t,k1,k2⟩:=bO (f:=kg (j:Int) row) (λi (t:List (List Int))=>PrevM g.Arena.Next n j row i t) row.length (s:=s) (hs.first row) (λi t hi ht=>by
   have hu:row[i]? =some row[i]:=bB hi
   generalize row[i]=u at hu
   obtain⟨u0,u1⟩:=r3 u (it hu)
   obtain⟨old,m1,m2,t',m3,m4⟩:=ht.step hu r2 u0 u1
   unfold kg
   rw[bC,hu,bt,m1,bt,app1 (by omega) rfl,bt,bt,m3,bt]
   exact⟨_,rfl,m4⟩)
  rw[k1,bt,bD]
  exact⟨_,rfl,k2.last hr⟩)
 rw[h1,bt,bD]
 exact⟨s,rfl,h2⟩
theorem r7:∃P,mL g=some ⟨g.Arena.Owner,g.Prio,g.Arena.Next,P,hV n (-1)⟩/\PrevT g.Arena.Next n n P:=by
 have hn:=h.n256
 unfold mL
 rw[h.lp,cO (by omega) rfl,bt,cO (by omega) rfl,bt]
 obtain⟨s,h1,h2,h3,h4⟩:=bO (f:=jW g) (λj (s:List (List Int)×List Int)=>PrevT g.Arena.Next n j s.1/\s.2.length=n/\∀i:Nat,i<j->idx s.2 (i:Int)=some (-1)) n (s:=(hV n [],hV n 0)) ⟨PrevT.zero,by simp,λi hi=>absurd hi (Nat.not_lt_zero i)⟩ (λj s hj ⟨hs,q1,q2⟩=>by
  obtain⟨s,k⟩:=s
  dsimp only at hs q1 q2
  have hr:g.Arena.Next[j]? =some (g.Arena.Next[j]'(by rw[h.ln];exact hj)):=bB (by rw[h.ln];exact hj)
  generalize g.Arena.Next[j]'(by rw[h.ln];exact hj)=row at hr
  obtain⟨r1,r2,r3⟩:=h.row (j:Int) row (by rw[bC];exact hr)
  obtain⟨old,ho⟩:=ca (xs:=k) (i:=(j:Int)) (by omega) (by omega)
  obtain⟨k',hk,hkl⟩:=cr (xs:=k) (i:=(j:Int)) (-1) (by omega) (by omega)
  unfold jW
  dsimp only
  rw[ho,bt,hk,bt]
  obtain⟨o,w1,w2⟩:=cm (f:=jJ g (j:Int)) (λi (t:Int×List (List Int))=>t.1=(i:Int)/\i<=row.length/\PrevM g.Arena.Next n j row i t.2) (λ_=>False) (λt=>PrevM g.Arena.Next n j row row.length t.2) row.length (λi t ⟨a1,a2,a3⟩=>by
   obtain⟨i',t⟩:=t
   dsimp only at a1 a3
   subst a1
   unfold jJ
   dsimp only
   rw[bC,hr,bt]
   by_cases hlt:i<row.length
   · have hlt':(i:Int)<(row.length:Int):=by omega
     have hu:row[i]? =some row[i]:=bB hlt
     generalize row[i]=u at hu
     obtain⟨u0,u1⟩:=r3 u (it hu)
     obtain⟨old,m1,m2,t',m3,m4⟩:=a3.step hu r2 u0 u1
     have hw:IntKind.i64.wrap ((i:Int)+1)=((i+1:Nat):Int):=by rw[wr' (by omega) (by omega)];omega
     simp only[hlt',decide_true,cond_true,bt,bC,hu,m1,app1 (show old.length<=10000000000 by omega) (show Nat.ble 8 1024=true from rfl),m3,hw]
     exact⟨_,rfl,hlt,rfl,by omega,m4⟩
   · have hlt':¬(i:Int)<(row.length:Int):=by omega
     simp only[hlt',decide_false,cond_false]
     have e:i=row.length:=by omega
     subst e
     exact⟨_,rfl,a3⟩) (2 ^ 64) 0 (0,s) (by omega) ⟨rfl,by omega,hs.first row⟩ (by omega)
  match o,w2 with
  | .inr t,w2=>
   rw[w1,bt,bD]
   refine⟨_,rfl,w2.last hr,by dsimp only;omega,λi hi=>?_⟩
   dsimp only
   rw[cz hk]
   by_cases e:(i:Int)=(j:Int)
   · rw[if_pos e]
   · rw[if_neg e];exact q2 i (by omega))
 rw[h1,bt,bD]
 have e:s.2=hV n (-1):=by
  apply List.ext_getElem?
  intro i
  rw[vt]
  by_cases hi:i<n
  · rw[if_pos hi,← bC];exact h4 i hi
  · rw[if_neg hi];exact vE (by omega)
 refine⟨s.1,?_,h2⟩
 rw[e]
theorem GOk.wfI {P:List (List Int)}(hP:PrevT g.Arena.Next n n P):WfI ⟨g,P⟩ n:=by
 refine⟨h.n256,h.lo,h.lp,h.ln,hP.1,h.ow,h.row,λu Q hQ=>?_⟩
 obtain⟨u0,u1⟩:=ci hQ
 have u1:u<(P.length:Int):=u1
 have hQ:idx P u=some Q:=hQ
 rw[hP.2 u u0 (by have:=hP.1;omega)]at hQ
 cases hQ
 have:=mO g.Arena.Next u n
 have:=h.n256
 exact⟨nh _ _ _,by omega,λv=>oN h.ln⟩
theorem GOk.wfS {P:List (List Int)}(hP:PrevT g.Arena.Next n n P){k:List Int}(hk:k.length=n):WfS ⟨g.Arena.Owner,g.Prio,g.Arena.Next,P,k⟩ n:=by
 refine⟨h.n256,h.lo,h.lp,h.ln,hk,hP.1,h.ow,h.row,λu Q hQ=>?_⟩
 obtain⟨u0,u1⟩:=ci hQ
 have u1:u<(P.length:Int):=u1
 have hQ:idx P u=some Q:=hQ
 rw[hP.2 u u0 (by have:=hP.1;omega)]at hQ
 cases hQ
 have:=mO g.Arena.Next u n
 have:=h.n256
 exact⟨nh _ _ _,by omega,λv=>oN h.ln⟩
theorem tK (P:List (List Int)):gS ⟨g.Arena.Owner,g.Prio,g.Arena.Next,P,hV n (-1)⟩=gI g:=by
 unfold gS gI
 congr 1
 funext v
 unfold rowS cK
 dsimp only
 cases hr:idx g.Arena.Next v with
 | none=>rfl
 | some r=>
  obtain⟨v0,v1⟩:=ci hr
  have:idx (hV n (-1:Int)) v=some (-1):=by
   rw[cD v0,vt,if_pos (by have:=h.ln;omega)]
  rw[this]
  show r.filter (okE (-1))=r
  rw[List.filter_eq_self]
  intro a _
  rfl
theorem uR:mj (g.Prio.length:Int)=some (hV n true):=by
 have hn:=h.n256
 unfold mj
 have hr:rng (n:Int)=some ()\/True:= .inr trivial
 rw[h.lp,cO (by omega) rfl,bt,show Int.toNat ((n:Int)-0)=n from by omega]
 obtain⟨s,h1,h2,h3⟩:=fill (f:=iE) (λ_=>true) n (s0:=hV n false) (by simp) (λj s hj hs=>by
  unfold iE
  rfl)
 rw[h1]
 have e:s=hV n true:=by
  apply List.ext_getElem?
  intro i
  rw[vt]
  by_cases hi:i<n
  · rw[if_pos hi,← bC];exact h3 i hi
  · rw[if_neg hi];exact vE (by omega)
 subst e
 have:rng (n:Int)=some ():=by
  unfold rng
  first
   | rfl
   | rw[if_pos (by omega)]
 rw[this];rfl
omit h in
theorem uP (v:Int):In (hV n true) v↔0<=v/\v<n:=by
 constructor
 · intro h
   have:=ci h
   simpa using this
 · rintro⟨h0,h1⟩
   unfold In
   rw[cD h0,vt,if_pos (by omega)]
theorem tc {L:List Int}(hL:∀v∈L,0<=v/\v<n):∃R,n6 g.Arena L=some R/\R.length=n/\∀v,In R v↔v∈L:=by
 have hn:=h.n256
 unfold n6
 rw[h.lo,cO (by omega) rfl,bt]
 obtain⟨s,h1,h2,h3⟩:=bO (f:=kK L) (λj (s:List Bool)=>s.length=n/\∀v:Int,0<=v->v<n->idx s v=some (decide (v∈L.take j))) L.length (s:=hV n false) ⟨by simp,λv v0 v1=>by
  rw[cD v0,vt,if_pos (by omega)];simp⟩ (λj s hj ⟨q1,q2⟩=>by
  have hu:L[j]? =some L[j]:=bB hj
  generalize L[j]=u at hu
  obtain⟨u0,u1⟩:=hL u (it hu)
  obtain⟨s',hs,hl⟩:=cr (xs:=s) (i:=u) true u0 (by omega)
  unfold kK
  rw[bC,hu,bt,q2 u u0 u1,bt,hs,bt]
  refine⟨_,rfl,by omega,λv v0 v1=>?_⟩
  rw[cz hs,fJ hu]
  by_cases e:v=u
  · rw[if_pos e];simp[e]
  · rw[if_neg e,q2 v v0 v1];simp[e])
 rw[h1,bt,bD]
 refine⟨s,rfl,h2,λv=>?_⟩
 rw[List.take_length]at h3
 constructor
 · intro hi
   have hi':=ip h2 hi
   unfold In at hi
   rw[h3 v hi'.1 hi'.2]at hi
   simpa using hi
 · intro hm
   obtain⟨v0,v1⟩:=hL v hm
   unfold In
   rw[h3 v v0 v1]
   simpa using hm
theorem qJ {L:List Int}(hL:∀v∈L,0<=v/\v<n) (hN:Par.NoDead (gI g) (λv=>v∈L)):∃E O W,nv g L=some (E,O)/\Par.Sol (gI g) (λv=>v∈L) false W/\(∀v,v∈E↔W v)/\(∀v,v∈O↔v∈L/\¬W v)/\E.length<=n/\O.length<=n:=by
 have hn:=h.n256
 obtain⟨P,p1,p2⟩:=rt h
 obtain⟨M,m1,m2,m3⟩:=tc h hL
 have eM:In M=λv=>v∈L:=funext λv=>propext (m3 v)
 obtain⟨R,q,r1,r2,r3⟩:=vb (h.wfI p2) h.pri n M (2 ^ 64) m2 (by rw[eM];exact hN) (by have:=oU M;omega) (by omega)
 obtain⟨X,x1,x2,x3⟩:=j7 m2 r2 hn
 have lR:=ku R R.length
 have lX:=ku X X.length
 have r3:Par.Sol (gI g) (In M) q (In R):=r3
 unfold nv
 rw[p1,bt,m1,bt,r1,bt]
 dsimp only
 rw[my,jN (by omega),x1]
 simp only[bt]
 rw[jN (by omega)]
 simp only[bt]
 have hsol:=r3.asP false
 rw[eM]at hsol
 have hsub:=r3.sub
 cases q with
 | false=>
  simp only[Bool.not_false,cond_true]
  refine⟨_,_,_,rfl,hsol,λv=>?_,λv=>?_,by omega,by omega⟩
  · rw[co]
    exact⟨λhv=>⟨(m3 v).1 (hsub v hv),λ_=>rfl,λ_=>hv⟩,λhv=>hv.2.2 rfl⟩
  · rw[co,x3,m3]
    exact⟨λhv=>⟨hv.1,λhw=>hv.2 (hw.2.2 rfl)⟩,λhv=>⟨hv.1,λhr=>hv.2 ⟨hv.1,λ_=>rfl,λ_=>hr⟩⟩⟩
 | true=>
  simp only[vw,cond_false]
  refine⟨_,_,_,rfl,hsol,λv=>?_,λv=>?_,by omega,by omega⟩
  · rw[co,x3,m3]
    exact⟨λhv=>⟨hv.1,λhr=>absurd hr hv.2,λhf=>absurd hf (by decide)⟩,λhv=>⟨hv.1,λhr=>absurd (hv.2.1 hr) (by decide)⟩⟩
  · rw[co]
    constructor
    · intro hr
      exact⟨(m3 v).1 (hsub v hr),λhw=>absurd (hw.2.1 hr) (by decide)⟩
    · rintro⟨hl,hw⟩
      apply Classical.byContradiction
      intro hr
      exact hw ⟨hl,λh'=>absurd h' hr,λhf=>absurd hf (by decide)⟩
end
end Go.Proofs.Ytpcjbkgbnoocaaa
set_option linter.unusedVariables false
set_option linter.unusedSimpArgs false
namespace Go.Proofs.Ytpcjbkgbnoocaaa
open Go Go.Wk Go.Proofs
open Classical
theorem sx {a:Arena}(h:a.Owner.length<=256):pY a=some ((List.range a.Owner.length).map Int.ofNat):=by
 unfold pY sZ rT
 rw[bt,show decide ((a.Owner.length:Int)<0)=false from by simp]
 simp only[cond_false,bt]
 rw[show decide ((256:Int)<(a.Owner.length:Int))=false from by simp;omega,cond_false,show Int.toNat ((a.Owner.length:Int)-0)=a.Owner.length from by omega]
 obtain⟨s,h1,h2⟩:=bO (f:=lS) (λj (s:List Int)=>s=(List.range j).map Int.ofNat) a.Owner.length (s:=[]) rfl (λj s hj hs=>by
  subst hs
  unfold lS
  rw[app1 (by rw[vI,List.length_range];omega) rfl,bt]
  exact⟨_,rfl,by rw[List.range_succ,List.map_append];rfl⟩)
 rw[h1]
 subst h2
 have:rng (a.Owner.length:Int)=some ():=by
  unfold rng
  first
   | rfl
   | rw[if_pos (by omega)]
 rw[this];rfl
noncomputable def wonL (n:Nat) (W:Int->Prop):List Int:=(List.range n).map λ(v:Nat)=>b2i (decide (¬W (v:Int)))
theorem mq (n:Nat) (W:Int->Prop):(wonL n W).length=n:=by unfold wonL;rw[vI,List.length_range]
theorem qH {n:Nat}{W:Int->Prop}{v:Nat}(h:v<n):(wonL n W)[v]? =some (b2i (decide (¬W (v:Int)))):=by
 unfold wonL
 rw[List.getElem?_map,List.getElem?_range h];rfl
theorem rV {n:Nat}{W:Int->Prop}{l:List Int}(hl:l.length=n) (h:∀v:Nat,v<n->l[v]? =some (b2i (decide (¬W (v:Int))))):l=wonL n W:=by
 apply List.ext_getElem?
 intro i
 by_cases hi:i<n
 · rw[h i hi,qH hi]
 · rw[vE (by omega),vE (by rw[mq];omega)]
theorem lW {g:Parity}{n:Nat}(h:GOk g n) (hr:∀v r,idx g.Arena.Next v=some r->r≠[]):Par.NoDead (gI g) (λv=>0<=v/\v<n):=λv ⟨v0,v1⟩=>by
 obtain⟨r,hv⟩:=ca (xs:=g.Arena.Next) v0 (by have:=h.ln;omega)
 cases r with
 | nil=>exact absurd rfl (hr v [] hv)
 | cons u us=>
  refine⟨u,?_,(h.row v _ hv).2.2 u (List.mem_cons_self ..)⟩
  show u∈cK g.Arena v
  rw[eO hv];exact List.mem_cons_self ..
theorem sP {g:Parity}{n:Nat}(h:GOk g n) (hr:∀v r,idx g.Arena.Next v=some r->r≠[]):∃W,ga g=some (wonL n W)/\iy g=some (wonL n W)/\Par.Sol (gI g) (λv=>0<=v/\v<n) false W:=by
 have hn:=h.n256
 have hN:=lW h hr
 -- the program
 have hmem:∀v:Int,v∈(List.range n).map Int.ofNat↔0<=v/\v<n:=λv=>by
  rw[List.mem_map]
  constructor
  · rintro⟨w,hw,rfl⟩
    rw[List.mem_range]at hw
    exact⟨Int.natCast_nonneg w,by show(w:Int)<n;omega⟩
  · rintro⟨v0,v1⟩
    obtain⟨w,hw⟩:=dr v0
    subst hw
    exact⟨w,List.mem_range.2 (by omega),rfl⟩
 have eX:(λv=>v∈(List.range n).map Int.ofNat)=λv:Int=>0<=v/\v<n:=funext λv=>propext (hmem v)
 obtain⟨E,O,W,k1,k2,k3,k4,k5,k6⟩:=qJ h (L:=(List.range n).map Int.ofNat) (λv hv=>(hmem v).1 hv) (by rw[eX];exact hN)
 rw[eX]at k2
 refine⟨W,?_,?_,k2⟩
 · -- the reference
   obtain⟨P,p1,p2⟩:=r7 h
   have hg:=tK h P
   have hA:In (hV n true)=λv:Int=>0<=v/\v<n:=funext λv=>propext (uP v)
   obtain⟨R,r1,r2,r3⟩:=uf (h.wfS p2 (k:=hV n (-1)) (by simp)) h.pri n (hV n true) (2 ^ 64) (by simp) (by rw[hA,hg];exact hN) (by have:=oU (hV n true);simp at this;exact this) (by omega)
   rw[hg,hA]at r3
   have huq:=r3.uniq k2
   unfold ga
   rw[p1,bt,uR h,bt,r1,bt,r2]
   obtain⟨s,h1,h2,h3⟩:=bO (f:=iY R) (λj (s:List Int)=>s.length=j/\∀i:Nat,i<j->s[i]? =some (b2i (decide (¬W (i:Int))))) n (s:=[]) ⟨rfl,λi hi=>absurd hi (Nat.not_lt_zero i)⟩ (λj s hj ⟨q1,q2⟩=>by
    unfold iY
    rw[en (B:=R) (by omega) (by omega),bt]
    have hf:gh (decide (In R (j:Int)))=some (b2i (decide (In R (j:Int)))):=by
     unfold gh
     cases decide (In R (j:Int)) <;> rfl
    rw[hf,bt,mT,app1 (by omega) rfl,bt]
    refine⟨_,rfl,by rw[vx];simp;omega,λi hi=>?_⟩
    by_cases e:i<j
    · rw[List.getElem?_append_left (by omega)];exact q2 i e
    · have:i=j:=by omega
      subst this
      rw[List.getElem?_append_right (by omega),q1,Nat.sub_self]
      show some _=some _
      congr 2
      rw[← decide_not]
      exact decide_eq_decide.2 (not_congr (huq _)))
   rw[h1,bt,bD,rV h2 h3]
 · unfold iy
   rw[h.lp,cO (by omega) rfl,bt,sx (by have:=h.lo;omega),h.lo,bt,k1,bt]
   obtain⟨s,h1,h2,h3⟩:=bO (f:=kq (E,O)) (λj (s:List Int)=>s.length=n/\∀v:Int,0<=v->v<n->idx s v=some (b2i (decide (v∈O.take j)))) O.length (s:=hV n 0) ⟨by simp,λv v0 v1=>by
    rw[cD v0,vt,if_pos (by omega)];simp[b2i]⟩ (λj s hj ⟨q1,q2⟩=>by
    have hu:O[j]? =some O[j]:=bB hj
    generalize O[j]=u at hu
    obtain⟨u0,u1⟩:=(hmem u).1 ((k4 u).1 (it hu)).1
    obtain⟨s',hs,hl⟩:=cr (xs:=s) (i:=u) 1 u0 (by omega)
    unfold kq
    dsimp only
    rw[bC,hu,bt,q2 u u0 u1,bt,hs,bt]
    refine⟨_,rfl,by omega,λv v0 v1=>?_⟩
    rw[cz hs,fJ hu]
    by_cases e:v=u
    · rw[if_pos e];simp[e,b2i]
    · rw[if_neg e,q2 v v0 v1];simp[e])
   dsimp only
   rw[h1,bt,bD]
   congr 1
   rw[List.take_length]at h3
   refine rV h2 λv hv=>?_
   rw[← bC,h3 _ (by omega) (by omega)]
   congr 2
   refine decide_eq_decide.2 ?_
   rw[k4,hmem]
   exact⟨λh=>h.2,λh=>⟨⟨by omega,by omega⟩,h⟩⟩
theorem mV {g:Parity}(hp:cn g=true):∀v r,idx g.Arena.Next v=some r->r≠[]:=λv r hr e=>by
 obtain⟨h1,h2,h3,h4,h5⟩:=dq hp
 obtain⟨v0,_⟩:=ci hr
 obtain⟨i,hi⟩:=dr v0
 subst hi
 rw[bC]at hr
 have:=(h5 i r hr).1
 rw[e]at this
 simp at this
end Go.Proofs.Ytpcjbkgbnoocaaa
set_option linter.unusedVariables false
set_option linter.unusedSimpArgs false
namespace Go.Proofs.Ytpcjbkgbnoocaaa.Par
open Classical
variable {G H:Gm}{X Y C T W W' D:Int->Prop}{p:Bool}{w w':Int->Bool}{k k':Int->Int}
theorem Dom.self (h:Dom G X p D):Dom G D p D:=by
 obtain⟨σ,a1,a2,a3,a4⟩:=h
 exact⟨σ,λv hv=>hv,a2,λv u _ _ _ hu=>hu,a4⟩
theorem Dom.congrG (h:Dom G X p D) (ho:∀v,D v->H.own v=G.own v) (hp:∀v,D v->H.pri v=G.pri v) (hE:∀v u,D v->(H.E v u↔G.E v u)):Dom H X p D:=by
 obtain⟨σ,a1,a2,a3,a4⟩:=h
 refine⟨σ,a1,λv hv hq=>?_,λv u hv hq he hx=>?_,λπ hπ=>?_⟩
 · rw[ho v hv]at hq
   have:=a2 v hv hq
   exact⟨(hE v _ hv).2 this.1,this.2⟩
 · rw[ho v hv]at hq
   exact a3 v u hv hq ((hE v u hv).1 he) hx
 · have hp':Play G p D σ π:=λn=>by
    obtain⟨b1,b2,b3⟩:=hπ n
    exact⟨b1,(hE _ _ b1).1 b2,λhq=>b3 (by rw[ho _ b1];exact hq)⟩
   obtain⟨d,c1,c2,N,c3⟩:=a4 π hp'
   have e:∀n,H.pri (π n)=G.pri (π n):=λn=>hp _ (hπ n).1
   exact⟨d,c1,λM=>by obtain⟨n,k1,k2⟩:=c2 M;exact⟨n,k1,by rw[e];exact k2⟩,N,λn hn=>by rw[e];exact c3 n hn⟩
theorem Sol.congrG (h:Sol G X p W) (ho:∀v,X v->H.own v=G.own v) (hp:∀v,X v->H.pri v=G.pri v) (hE:∀v u,X v->(H.E v u↔G.E v u)):Sol H X p W:=
 ⟨h.sub,h.mine.congrG (λv hv=>ho v (h.sub v hv)) (λv hv=>hp v (h.sub v hv)) (λv u hv=>hE v u (h.sub v hv)),
  h.yours.congrG (λv hv=>ho v hv.1) (λv hv=>hp v hv.1) (λv u hv=>hE v u hv.1)⟩
theorem hold_iff {R:Int->Prop}{q:Bool}(hs:Sol G Y false R):(∀x,Y x->(R x↔q=false))↔Dom G Y q Y:=by
 constructor
 · intro h
   cases q with
   | false=>exact hs.mine.congr λv=>⟨hs.sub v,λhv=>(h v hv).2 rfl⟩
   | true=>exact hs.yours.congr λv=>⟨λhv=>hv.1,λhv=>⟨hv,λhr=>absurd ((h v hv).1 hr) (by decide)⟩⟩
 · intro h x hx
   have:=hs.uniq ((Sol.all h).asP false) x
   rw[this]
   exact⟨λh=>(h.2.1 hx).symm,λe=>⟨hx,λ_=>e.symm,λ_=>hx⟩⟩
def pickG (G:Gm) (k:Int->Int):Gm:=⟨G.own,G.pri,λv u=>G.E v u/\(k v<0\/k v=u)⟩
def Rg (X:Int->Prop) (w:Int->Bool) (q:Bool):Int->Prop:=λv=>X v/\w v=q
def updF (k:Int->Int) (v u:Int):Int->Int:=λx=>if x=v then u else k x
structure PInv (G:Gm) (X:Int->Prop) (w:Int->Bool) (k:Int->Int):Prop where
 pick:∀v,0<=k v->X v/\G.own v=w v/\G.E v (k v)/\X (k v)/\w (k v)=w v
 dom:∀q,Dom (pickG G k) (Rg X w q) q (Rg X w q)
 yours:∀v u,X v->¬G.own v=w v->G.E v u->X u->w u=w v
theorem Sol.rg (h:Sol G X false W) (hw:∀v,X v->(w v=false↔W v)) (q:Bool):Dom G X q (Rg X w q):=by
 cases q with
 | false=>exact h.mine.congr λv=>⟨λhv=>⟨h.sub v hv,(hw v (h.sub v hv)).2 hv⟩,λhv=>(hw v hv.1).1 hv.2⟩
 | true=>exact h.yours.congr λv=>⟨λhv=>⟨hv.1,by
  cases e:w v with
  | true=>rfl
  | false=>exact absurd ((hw v hv.1).1 e) hv.2⟩,λhv=>⟨hv.1,λh'=>by
  have:=(hw v hv.1).2 h'
  rw[hv.2]at this
  cases this⟩⟩
theorem PInv.start (h:Sol G X false W) (hw:∀v,X v->(w v=false↔W v)) (hk:∀v,k v<0):PInv G X w k:=by
 refine⟨λv hv=>absurd (hk v) (by omega),λq=>((h.rg hw q).self).congrG (λ_ _=>rfl) (λ_ _=>rfl) λv u _=>⟨λh=>h.1,λh=>⟨h,.inl (hk v)⟩⟩,λv u hv ho he hu=>?_⟩
 obtain⟨σ,a1,a2,a3,a4⟩:=h.rg hw (w v)
 exact(a3 v u ⟨hv,rfl⟩ ho he hu).2
theorem PInv.ex (hI:PInv G X w k){v:Int}(hv:X v) (ho:G.own v=w v) (hk:k v<0):∃u,G.E v u/\X u/\w u=w v/\Dom (pickG G (updF k v u)) (Rg X w (w v)) (w v) (Rg X w (w v)):=by
 obtain⟨σ,a1,a2,a3,a4⟩:=hI.dom (w v)
 obtain⟨⟨e1,_⟩,e2,e3⟩:=a2 v ⟨hv,rfl⟩ ho
 refine⟨σ v,e1,e2,e3,σ,a1,λx hx hq=>?_,λx y hx hq he hy=>hy,λπ hπ=>a4 π λn=>?_⟩
 · obtain⟨⟨b1,b2⟩,b3⟩:=a2 x hx hq
   refine⟨⟨b1,?_⟩,b3⟩
   unfold updF
   by_cases e:x=v
   · rw[if_pos e,e];exact .inr rfl
   · rw[if_neg e];exact b2
 · obtain⟨b1,⟨b2,b3⟩,b4⟩:=hπ n
   refine⟨b1,⟨b2,?_⟩,b4⟩
   unfold updF at b3
   by_cases e:π n=v
   · rw[e];exact .inl hk
   · rwa [if_neg e]at b3
theorem PInv.step (hI:PInv G X w k){v u:Int}(hv:X v) (ho:G.own v=w v) (h1:G.E v u) (h2:X u) (h3:w u=w v) (hd:Dom (pickG G (updF k v u)) (Rg X w (w v)) (w v) (Rg X w (w v))):PInv G X w (updF k v u):=by
 refine⟨λx hx=>?_,λq=>?_,hI.yours⟩
 · by_cases e:x=v
   · subst e
     have:updF k x u x=u:=if_pos rfl
     rw[this];exact⟨hv,ho,h1,h2,h3⟩
   · have:updF k v u x=k x:=if_neg e
     rw[this]at hx ⊢;exact hI.pick x hx
 · by_cases e:q=w v
   · subst e;exact hd
   · refine(hI.dom q).congrG (λ_ _=>rfl) (λ_ _=>rfl) λx y hx=>?_
     have:x≠v:=λe'=>e (by rw[← hx.2,e'])
     have:updF k v u x=k x:=if_neg this
     show _/\_↔_/\_
     rw[this]
theorem PInv.noDead (hI:PInv G X w k) (hN:NoDead G X){v u:Int}(h1:G.E v u) (h2:X u) (h3:w u=w v) (q:Bool):NoDead (pickG G (updF k v u)) (Rg X w q):=λx ⟨hx,hq⟩=>by
 by_cases e:x=v
 · subst e;exact⟨u,⟨h1,.inr (if_pos rfl)⟩,h2,by rw[h3,hq]⟩
 · have e':updF k v u x=k x:=if_neg e
   by_cases ho:G.own x=w x
   · obtain⟨σ,_,a2,_⟩:=hI.dom q
     obtain⟨⟨b1,b2⟩,b3⟩:=a2 x ⟨hx,hq⟩ (by show G.own x=q;rw[ho,hq])
     exact⟨σ x,⟨b1,by rw[e'];exact b2⟩,b3⟩
   · obtain⟨y,c1,c2⟩:=hN x hx
     refine⟨y,⟨c1,.inl ?_⟩,c2,by rw[hI.yours x y hx ho c1 c2,hq]⟩
     rw[e']
     apply Classical.byContradiction
     intro hn
     exact ho (hI.pick x (by omega)).2.1
inductive Rch (H:Gm) (Y:Int->Prop):Int->Int->Prop
 | refl {v:Int}:Y v->Rch H Y v v
 | step {v u x:Int}:Y v->H.E v u->Rch H Y u x->Rch H Y v x
def Loop (H:Gm) (Y:Int->Prop) (v:Int):Prop:=∃u,H.E v u/\Rch H Y u v
theorem Rch.fst {v x:Int}(h:Rch H Y v x):Y v:=by cases h <;> assumption
theorem Rch.lst {v x:Int}(h:Rch H Y v x):Y x:=by induction h with
 | refl h=>exact h
 | step _ _ _ ih=>exact ih
theorem Rch.snoc {v x y:Int}(h:Rch H Y v x) (he:H.E x y) (hy:Y y):Rch H Y v y:=by induction h with
 | refl h=>exact .step h he (.refl hy)
 | step h1 h2 _ ih=>exact .step h1 h2 (ih he)
theorem Rch.mono {H':Gm}{Y':Int->Prop}{v x:Int}(h:Rch H Y v x) (hy:∀a,Y a->Y' a) (he:∀a b,Y a->Y b->H.E a b->H'.E a b):Rch H' Y' v x:=by induction h with
 | refl h=>exact .refl (hy _ h)
 | step h1 h2 h3 ih=>exact .step (hy _ h1) (he _ _ h1 h3.fst h2) ih
theorem Loop.mono {H':Gm}{Y':Int->Prop}{v:Int}(h:Loop H Y v) (hy:∀a,Y a->Y' a) (he:∀a b,Y a->Y b->H.E a b->H'.E a b):Loop H' Y' v:=by
 obtain⟨u,h1,h2⟩:=h
 exact⟨u,he v u h2.lst h2.fst h1,h2.mono hy he⟩
theorem Rch.path {v x:Int}(h:Rch H Y v x):∃(m:Nat) (f:Nat->Int),f 0=v/\f m=x/\(∀i,i<m->H.E (f i) (f (i+1)))/\∀i,i<=m->Y (f i):=by induction h with
 | @refl v h=>exact⟨0,λ_=>v,rfl,rfl,λi hi=>absurd hi (Nat.not_lt_zero i),λ_ _=>h⟩
 | @step v u x h1 h2 _ ih=>
  obtain⟨m,f,a1,a2,a3,a4⟩:=ih
  refine⟨m+1,λi=>match i with | 0=>v | i+1=>f i,rfl,a2,λi hi=>?_,λi hi=>?_⟩
  · cases i with
    | zero=>show H.E v (f 0);rw[a1];exact h2
    | succ i=>exact a3 i (by omega)
  · cases i with
    | zero=>exact h1
    | succ i=>exact a4 i (by omega)
theorem Rch.ofPath {f:Nat->Int}(he:∀i,H.E (f i) (f (i+1))){a:Nat}(hy:∀i,a<=i->Y (f i)) (m:Nat):Rch H Y (f a) (f (a+m)):=by induction m with
 | zero=>exact .refl (hy a (by omega))
 | succ m ih=>exact ih.snoc (he _) (hy _ (by omega))
def Io (S:Nat->Prop):Prop:=∀N,∃m,N<=m/\S m
theorem Io.val {f:Nat->Int}:∀(n:Nat){S:Nat->Prop},Io S->(∀m,S m->0<=f m/\f m<n)->∃v,Io λm=>S m/\f m=v:=by
 intro n
 induction n with
 | zero=>
  intro S hS hb
  obtain⟨m,_,hm⟩:=hS 0
  have:=hb m hm
  omega
 | succ n ih=>
  intro S hS hb
  by_cases h:Io λm=>S m/\f m=(n:Int)
  · exact⟨n,h⟩
  · obtain⟨N,hN⟩:=Classical.not_forall.1 h
    obtain⟨v,hv⟩:=ih (S:=λm=>S m/\N<=m) (λM=>by
     obtain⟨m,h1,h2⟩:=hS (max M N)
     exact⟨m,by omega,h2,by omega⟩) (λm hm=>by
     have:=hb m hm.1
     have:¬f m=(n:Int):=λe=>hN ⟨m,hm.2,hm.1,e⟩
     omega)
    exact⟨v,λM=>by
     obtain⟨m,h1,h2,h3⟩:=hv M
     exact⟨m,h1,h2.1,h3⟩⟩
theorem tI {f:Nat->Int}:∀(b:Nat) (N:Nat),(∀m,N<=m->0<=f m/\f m<b)->∃d,(∀N,∃n,N<=n/\f n=d)/\∃N,∀n,N<=n->f n<=d:=by
 intro b
 induction b with
 | zero=>
  intro N h
  have:=h N (by omega)
  omega
 | succ b ih=>
  intro N h
  by_cases h':∀N,∃n,N<=n/\f n=(b:Int)
  · exact⟨b,h',N,λn hn=>by have:=h n hn;omega⟩
  · obtain⟨M,hM⟩:=Classical.not_forall.1 h'
    refine ih (max N M) λm hm=>?_
    have:=h m (by omega)
    have:¬f m=(b:Int):=λe=>hM ⟨m,by omega,e⟩
    omega
structure Ans (G:Gm) (X:Int->Prop) (w:Int->Bool) (k:Int->Int):Prop where
 mine:∀v,X v->G.own v=w v->0<=k v/\G.E v (k v)/\X (k v)/\w (k v)=w v
 free:∀v,X v->¬G.own v=w v->k v<0
 yours:∀v u,X v->¬G.own v=w v->G.E v u->X u->w u=w v
 noloop:∀v,X v->¬oddP (G.pri v)=w v->¬Loop (pickG G k) (λx=>Rg X w (w v) x/\G.pri x<=G.pri v) v
theorem Ans.dom (h:Ans G X w k){n b:Nat}(hX:∀v,X v->0<=v/\v<n) (hp:∀v,X v->0<=G.pri v/\G.pri v<b) (q:Bool):Dom G X q (Rg X w q):=by
 refine⟨k,λv hv=>hv.1,λv hv ho=>?_,λv u hv ho he hx=>⟨hx,?_⟩,λπ hπ=>?_⟩
 · obtain⟨a1,a2,a3,a4⟩:=h.mine v hv.1 (by rw[ho,hv.2])
   exact⟨a2,a3,by rw[a4,hv.2]⟩
 · rw[h.yours v u hv.1 (by rw[hv.2];exact ho) he hx,hv.2]
 · obtain⟨d,d1,N,d2⟩:=tI (f:=λn=>G.pri (π n)) b 0 λm _=>hp _ (hπ m).1.1
   refine⟨d,?_,d1,N,d2⟩
   apply Classical.byContradiction
   intro hd
   obtain⟨v,hv⟩:=Io.val (f:=π) n (S:=λm=>N<=m/\G.pri (π m)=d) (λM=>by
    obtain⟨m,h1,h2⟩:=d1 (max M N)
    exact⟨m,by omega,by omega,h2⟩) (λm _=>hX _ (hπ m).1.1)
   obtain⟨m1,_,⟨c1,c2⟩,c3⟩:=hv 0
   obtain⟨m2,c4,_,c6⟩:=hv (m1+1)
   have c2:G.pri (π m1)=d:=c2
   rw[c3]at c2
   have hv1:Rg X w q v:=by rw[← c3];exact(hπ m1).1
   have hE:∀i,(pickG G k).E (π i) (π (i+1)):=λi=>by
    obtain⟨b1,b2,b3⟩:=hπ i
    refine⟨b2,?_⟩
    by_cases ho:G.own (π i)=q
    · exact .inr (b3 ho).symm
    · exact .inl (h.free _ b1.1 (by rw[b1.2];exact ho))
   have hr:=Rch.ofPath (H:=pickG G k) (Y:=λx=>Rg X w (w v) x/\G.pri x<=G.pri v) (f:=π) hE (a:=m1+1) (λi hi=>⟨by rw[hv1.2];exact(hπ i).1,by rw[c2];exact d2 i (by omega)⟩) (m2-(m1+1))
   rw[show m1+1+(m2-(m1+1))=m2 from by omega,c6]at hr
   refine h.noloop v hv1.1 (by rw[hv1.2,c2];exact hd) ⟨π (m1+1),?_,hr⟩
   have:=hE m1
   rwa [c3]at this
theorem Ans.sol (h:Ans G X w k){n b:Nat}(hX:∀v,X v->0<=v/\v<n) (hp:∀v,X v->0<=G.pri v/\G.pri v<b):Sol G X false (Rg X w false):=by
 refine⟨λv hv=>hv.1,h.dom hX hp false,(h.dom hX hp true).congr λv=>?_⟩
 constructor
 · rintro⟨h1,h2⟩
   exact⟨h1,λh'=>absurd (h2.symm.trans h'.2) (by decide)⟩
 · rintro⟨h1,h2⟩
   refine⟨h1,?_⟩
   cases e:w v with
   | true=>rfl
   | false=>exact absurd ⟨h1,e⟩ h2
theorem PInv.ans (hI:PInv G X w k) (hk:∀v,X v->G.own v=w v->0<=k v):Ans G X w k:=by
 refine⟨λv hv ho=>⟨hk v hv ho,(hI.pick v (hk v hv ho)).2.2⟩,λv hv ho=>?_,hI.yours,λv hv ho hl=>?_⟩
 · apply Classical.byContradiction
   intro hn
   exact ho (hI.pick v (by omega)).2.1
 · obtain⟨σ,a1,a2,a3,a4⟩:=hI.dom (w v)
   obtain⟨u,he,hr⟩:=hl
   obtain⟨m,f,f0,fm,fe,fy⟩:=(Rch.step hr.lst he hr).path
   -- the loop has at least one step
   have hm:0<m\/True:= .inr trivial
   obtain⟨m',g,g0,gm,ge,gy⟩:=hr.path
   let π:Nat->Int:=λi=>if i % (m'+1)=0 then v else g (i % (m'+1)-1)
   have p0:∀i,i % (m'+1)=0->π i=v:=λi hi=>if_pos hi
   have p1:∀i,i % (m'+1)≠0->π i=g (i % (m'+1)-1):=λi hi=>if_neg hi
   have hY:∀i,Rg X w (w v) (π i)/\G.pri (π i)<=G.pri v:=λi=>by
    by_cases e:i % (m'+1)=0
    · rw[p0 i e];exact hr.lst
    · rw[p1 i e]
      exact gy _ (by have:=Nat.mod_lt i (show 0<m'+1 by omega);omega)
   have hE:∀i,(pickG G k).E (π i) (π (i+1)):=λi=>by
    have hlt:=Nat.mod_lt i (show 0<m'+1 by omega)
    have hs:(i+1) % (m'+1)=if i % (m'+1)=m' then 0 else i % (m'+1)+1:=by
     rw[Nat.add_mod]
     by_cases e:i % (m'+1)=m'
     · rw[if_pos e,e]
       cases m' with
       | zero=>simp
       | succ m'=>rw[Nat.mod_eq_of_lt (show 1<m'+1+1 by omega),Nat.mod_self]
     · rw[if_neg e,Nat.mod_eq_of_lt (show 1<m'+1 by omega),Nat.mod_eq_of_lt (by omega)]
    by_cases e:i % (m'+1)=m'
    · rw[if_pos e]at hs
      rw[p0 (i+1) hs]
      by_cases e0:i % (m'+1)=0
      · rw[p0 i e0]
        have:m'=0:=by omega
        subst this
        rw[← gm,g0]at he ⊢
        rw[g0]at gm
        rw[← gm]at *
        exact he
      · rw[p1 i e0,e,← gm]
        have:=ge (m'-1) (by omega)
        rwa [show m'-1+1=m' from by omega]at this
    · rw[if_neg e]at hs
      rw[p1 (i+1) (by omega),hs]
      by_cases e0:i % (m'+1)=0
      · rw[p0 i e0,e0,Nat.zero_add,Nat.sub_self,g0];exact he
      · rw[p1 i e0]
        have:=ge (i % (m'+1)-1) (by omega)
        rwa [show i % (m'+1)-1+1=i % (m'+1)+1-1 from by omega]at this
   have hπ:Play (pickG G k) (w v) (Rg X w (w v)) σ π:=λi=>by
    refine⟨(hY i).1,hE i,λhq=>?_⟩
    have ho:G.own (π i)=w (π i):=by rw[(hY i).1.2];exact hq
    have h0:=hk _ (hY i).1.1 ho
    have e1:=(hE i).2.resolve_left (by omega)
    have e2:=(a2 _ (hY i).1 hq).1.2.resolve_left (by omega)
    rw[← e1,← e2]
   obtain⟨d,d1,d2,N,d3⟩:=a4 π hπ
   obtain⟨i,i1,i2⟩:=d2 N
   have j1:=(hY i).2
   have j2:=d3 ((m'+1) * N) (by
    have:=Nat.le_mul_of_pos_left N (show 0<m'+1 by omega)
    exact this)
   rw[p0 _ (Nat.mul_mod_right _ _)]at j2
   have i2:G.pri (π i)=d:=i2
   have j2:G.pri v<=d:=j2
   have:d=G.pri v:=by omega
   rw[this]at d1
   exact ho d1
end Go.Proofs.Ytpcjbkgbnoocaaa.Par
set_option linter.unusedVariables false
set_option linter.unusedSimpArgs false
namespace Go.Proofs.Ytpcjbkgbnoocaaa
open Go Go.Wk Go.Proofs
open Classical
def pkL (k:List Int) (v:Int):Int:=(idx k v).getD (-1)
theorem o4 {k:List Int}{v x:Int}(h:idx k v=some x):pkL k v=x:=by unfold pkL;rw[h];rfl
theorem nu {k k':List Int}{v u:Int}(h:setI k v u=some k'):pkL k'=Par.updF (pkL k) v u:=by
 funext w
 unfold pkL Par.updF
 rw[cz h]
 by_cases e:w=v
 · rw[if_pos e,if_pos e];rfl
 · rw[if_neg e,if_neg e]
theorem lz {k:List Int}{n:Nat}(hk:k.length=n){v:Int}(h0:0<=v) (h1:v<n):idx k v=some (pkL k v):=by
 obtain⟨x,hx⟩:=ca (xs:=k) h0 (by omega)
 rw[o4 hx];exact hx
def Xn (n:Nat):Int->Prop:=λv=>0<=v/\v<n
theorem lr {a:Arena}{v:Int}(h:idx a.Next v=none):cK a v=[]:=by unfold cK;rw[h];rfl
section
variable {g:Parity}{n:Nat}(h:GOk g n)
include h
theorem vg {v u:Int}(he:(gI g).E v u):Xn n v/\Xn n u:=by
 have he:u∈cK g.Arena v:=he
 cases hr:idx g.Arena.Next v with
 | none=>rw[lr hr]at he;cases he
 | some r=>
  rw[eO hr]at he
  obtain⟨v0,v1⟩:=ci hr
  have:=h.ln
  exact⟨⟨v0,by omega⟩,(h.row v r hr).2.2 u he⟩
theorem t0 (P:List (List Int)){k:List Int}(hk:k.length=n):gS ⟨g.Arena.Owner,g.Prio,g.Arena.Next,P,k⟩=Par.pickG (gI g) (pkL k):=by
 unfold gS gI Par.pickG mkG
 dsimp only
 congr 1
 funext v u
 apply propext
 cases hr:idx g.Arena.Next v with
 | none=>
  rw[lr hr]
  unfold rowS
  dsimp only
  rw[hr]
  simp
 | some r=>
  obtain⟨v0,v1⟩:=ci hr
  have hk':=lz hk v0 (by have:=h.ln;omega)
  rw[eO hr,pq (x:=⟨g.Arena.Owner,g.Prio,g.Arena.Next,P,k⟩) hr hk',List.mem_filter]
  unfold okE
  simp
end
theorem nV {g:Parity}(hp:cn g=true):kD g.Arena=some g.Arena:=by
 obtain⟨h1,h2,h3,h4,h5⟩:=dq hp
 unfold kD na
 rw[appL (by rw[vC];omega) rfl,bt]
 obtain⟨s,e1,e2⟩:=bO (f:=iN g.Arena.Next) (λj s=>s=g.Arena.Next.take j) g.Arena.Next.length (s:=[]) rfl (λj s hj hs=>by
  subst hs
  have hx:g.Arena.Next[j]? =some g.Arena.Next[j]:=by simp[hj]
  have:=h5 j _ hx
  unfold iN
  rw[bC,hx,bt,appL (by rw[vC];omega) rfl,bt,app1 (by rw[vB];omega) rfl]
  refine⟨_,rfl,?_⟩
  rw[vG,hx];rfl)
 rw[e1,e2,List.take_length,bt,bD,bt]
 rfl
theorem pt {g:Parity}{n:Nat}(hp:cn g=true) (hn:n=g.Prio.length){k:List Int}(hk:k.length=n):∃s,mN g.Arena k=some ⟨g.Arena.Owner,s⟩/\s.length=n/\∀v r,idx g.Arena.Next v=some r->idx s v=some (if 0<=pkL k v then[pkL k v] else r):=by
 have h:=GOk.of hp
 rw[← hn]at h
 unfold mN
 rw[nV hp,bt,hk]
 obtain⟨s,h1,h2,h3⟩:=bO (f:=kp k) (λj (s:List (List Int))=>s.length=n/\∀v r,idx g.Arena.Next v=some r->idx s v=some (if v<j/\0<=pkL k v then[pkL k v] else r)) n (s:=g.Arena.Next) ⟨h.ln,λv r hr=>by
  have:=(ci hr).1
  rw[if_neg (by omega)];exact hr⟩ (λj s hj ⟨q1,q2⟩=>by
  have hkj:=lz hk (v:=(j:Int)) (by omega) (by omega)
  obtain⟨old,ho⟩:=ca (xs:=s) (i:=(j:Int)) (by omega) (by omega)
  obtain⟨s',hs,hl⟩:=cr (xs:=s) (i:=(j:Int)) [pkL k j] (by omega) (by omega)
  unfold kp
  rw[hkj,bt,ho,bt,hs,bt]
  by_cases e:0<=pkL k j
  · rw[decide_eq_true e,cond_true,bt]
    refine⟨_,rfl,by omega,λv r hr=>?_⟩
    rw[cz hs]
    by_cases ev:v=j
    · subst ev
      rw[if_pos rfl,if_pos ⟨by omega,e⟩]
    · rw[if_neg ev,q2 v r hr]
      by_cases ep:0<=pkL k v
      · by_cases el:v<j
        · rw[if_pos ⟨el,ep⟩,if_pos ⟨by omega,ep⟩]
        · rw[if_neg (λh=>el h.1),if_neg (λh=>by have:=h.1;omega)]
      · rw[if_neg (λh=>ep h.2),if_neg (λh=>ep h.2)]
  · rw[decide_eq_false e,cond_false,bt]
    refine⟨_,rfl,q1,λv r hr=>?_⟩
    rw[q2 v r hr]
    by_cases ep:0<=pkL k v
    · by_cases el:v<j
      · rw[if_pos ⟨el,ep⟩,if_pos ⟨by omega,ep⟩]
      · have:v≠j:=λev=>e (ev ▸ ep)
        rw[if_neg (λh=>el h.1),if_neg (λh=>by have:=h.1;omega)]
    · rw[if_neg (λh=>ep h.2),if_neg (λh=>ep h.2)])
 rw[h1,bt,bD]
 refine⟨s,rfl,h2,λv r hr=>?_⟩
 rw[h3 v r hr]
 have:=(ci hr).2
 have:=h.ln
 by_cases ep:0<=pkL k v
 · rw[if_pos ⟨by omega,ep⟩,if_pos ep]
 · rw[if_neg (λh=>ep h.2),if_neg ep]
theorem tS {g:Parity}{n:Nat}(hp:cn g=true) (hn:n=g.Prio.length){k:List Int}(hk:k.length=n) (hE:∀v,0<=pkL k v->(gI g).E v (pkL k v)):∃g',nK g k=some g'/\GOk g' n/\gI g'=Par.pickG (gI g) (pkL k):=by
 have h:=GOk.of hp
 rw[← hn]at h
 obtain⟨s,s1,s2,s3⟩:=pt hp hn hk
 unfold nK
 rw[s1,bt,appL (by rw[vC];have:=h.n256;omega) rfl,bt]
 have hrow:∀v r',idx s v=some r'->∃r,idx g.Arena.Next v=some r/\r'=if 0<=pkL k v then[pkL k v] else r:=λv r' hr'=>by
  obtain⟨v0,v1⟩:=ci hr'
  obtain⟨r,hr⟩:=ca (xs:=g.Arena.Next) (i:=v) v0 (by have:=h.ln;omega)
  refine⟨r,hr,?_⟩
  rw[s3 v r hr]at hr'
  exact(Option.some.inj hr').symm
 refine⟨_,rfl,⟨h.n256,h.lo,h.lp,s2,h.ow,λv r' hr'=>?_,h.pri⟩,?_⟩
 · obtain⟨r,hr,e⟩:=hrow v r' hr'
   by_cases ep:0<=pkL k v
   · rw[if_pos ep]at e
     have hE':pkL k v∈cK g.Arena v:=hE v ep
     rw[eO hr]at hE'
     subst e
     refine⟨by simp,by simp,λu hu=>?_⟩
     rw[vy]at hu
     subst hu
     exact(h.row v r hr).2.2 _ hE'
   · rw[if_neg ep]at e
     subst e
     exact h.row v r' hr
 · unfold gI Par.pickG mkG
   dsimp only
   congr 1
   funext v u
   apply propext
   cases hr:idx g.Arena.Next v with
   | none=>
    have:idx s v=none:=by
     cases hs:idx s v with
     | none=>rfl
     | some r'=>
      obtain⟨r,hr',_⟩:=hrow v r' hs
      rw[hr]at hr';cases hr'
    rw[lr hr,lr (a:=⟨g.Arena.Owner,s⟩) this]
    simp
   | some r=>
    rw[eO hr,eO (a:=⟨g.Arena.Owner,s⟩) (s3 v r hr)]
    by_cases ep:0<=pkL k v
    · rw[if_pos ep,vy]
      have hE':pkL k v∈cK g.Arena v:=hE v ep
      rw[eO hr]at hE'
      constructor
      · intro e;subst e;exact⟨hE',.inr rfl⟩
      · rintro⟨_,h | h⟩
        · omega
        · exact h.symm
    · rw[if_neg ep]
      exact⟨λhu=>⟨hu,.inl (by omega)⟩,λhu=>hu.1⟩
theorem tL {x:l7Game}{n:Nat}(wf:WfS x n) (hp:PriOk x.prio){B:List Bool}(hB:B.length=n) (hN:Par.NoDead (gS x) (In B)) (q:Bool):jH x B (b2i q)=some (decide (Par.Dom (gS x) (In B) q (In B))):=by
 have hn:=wf.n256
 obtain⟨R,r1,r2,r3⟩:=uf wf hp n B (2 ^ 64) hB hN (by have:=oU B;omega) (by omega)
 unfold jH
 rw[r1,bt]
 have hh:=Par.hold_iff (q:=q) r3
 have key:=kO (f:=gi B (b2i q) R) (r:=false) (λi b=> !(b&&(decide (In R (i:Int)) != !q))) (xs:=B) (n:=B.length) rfl (λi b hb=>by
  have hlt:=(gs.1 hb).1
  unfold gi
  rw[bC,hb,bt,en (B:=R) (by omega) (by omega),bt,my]
  cases b <;> cases(decide (In R (i:Int)) != !q) <;> rfl)
 rw[key,bt]
 have:(B.zipIdx.all λp=> !(p.1&&(decide (In R (p.2:Int)) != !q)))=decide (Par.Dom (gS x) (In B) q (In B)):=by
  rw[vD,decide_eq_true_iff,← hh,List.all_eq_true]
  constructor
  · intro ha v hv
    obtain⟨v0,v1⟩:=ip hB hv
    obtain⟨i,hi⟩:=dr v0
    subst hi
    have hv':idx B (i:Int)=some true:=hv
    rw[bC]at hv'
    have:=ha (true,i) (by rw[List.mem_zipIdx_iff_getElem?];exact hv')
    dsimp only at this
    by_cases hR:In R (i:Int)
    · rw[decide_eq_true hR]at this
      cases q with
      | true=>simp at this
      | false=>exact⟨λ_=>rfl,λ_=>hR⟩
    · rw[decide_eq_false hR]at this
      cases q with
      | true=>exact⟨λh=>absurd h hR,λh=>absurd h (by decide)⟩
      | false=>simp at this
  · rintro hm ⟨b,i⟩ hp
    rw[List.mem_zipIdx_iff_getElem?]at hp
    dsimp only at hp ⊢
    cases b with
    | false=>rfl
    | true=>
     have hv:In B (i:Int):=by unfold In;rw[bC];exact hp
     have:=hm _ hv
     by_cases hR:In R (i:Int)
     · rw[decide_eq_true hR,this.1 hR];rfl
     · rw[decide_eq_false hR]
       cases q with
       | true=>rfl
       | false=>exact absurd (this.2 rfl) hR
 rw[this]
 cases decide (Par.Dom (gS x) (In B) q (In B)) <;> rfl
end Go.Proofs.Ytpcjbkgbnoocaaa
set_option linter.unusedVariables false
set_option linter.unusedSimpArgs false
namespace Go.Proofs.Ytpcjbkgbnoocaaa
open Go Go.Wk Go.Proofs
open Classical
noncomputable def wB (W:Int->Prop) (v:Int):Bool:=decide (¬W v)
theorem sQ {W:Int->Prop}{v:Int}:wB W v=false↔W v:=by unfold wB;simp
theorem jI {n:Nat}{W:Int->Prop}{v:Int}(h:Xn n v):idx (wonL n W) v=some (b2i (wB W v)):=by
 obtain⟨h0,h1⟩:=h
 obtain⟨i,hi⟩:=dr h0
 subst hi
 rw[bC,qH (by omega)];rfl
theorem mR {k:Int->Int}{v a b:Int}:Par.updF (Par.updF k v a) v b=Par.updF k v b:=by
 funext x
 unfold Par.updF
 by_cases e:x=v
 · rw[if_pos e,if_pos e]
 · rw[if_neg e,if_neg e,if_neg e]
theorem oL {k:Int->Int}{v a:Int}(h:k v=a):Par.updF k v a=k:=by
 funext x
 unfold Par.updF
 by_cases e:x=v
 · rw[if_pos e,e,h]
 · rw[if_neg e]
theorem rY {a b:List Int}{n:Nat}(ha:a.length=n) (hb:b.length=n) (h:pkL a=pkL b):a=b:=by
 apply List.ext_getElem?
 intro i
 by_cases hi:i<n
 · have h1:=lz ha (v:=(i:Int)) (by omega) (by omega)
   have h2:=lz hb (v:=(i:Int)) (by omega) (by omega)
   rw[bC]at h1 h2
   rw[h1,h2,h]
 · rw[vE (by omega),vE (by omega)]
theorem qf {C:Int->Prop}:∀{row:List Int},(∃u,u∈row/\C u)->∃(i:Nat) (u:Int),row[i]? =some u/\C u/\∀(j:Nat) y,j<i->row[j]? =some y->¬C y
 | [],h=>by obtain⟨u,hu,_⟩:=h;cases hu
 | x::r,h=>by
  by_cases hx:C x
  · exact⟨0,x,rfl,hx,λj y hj=>absurd hj (Nat.not_lt_zero j)⟩
  · obtain⟨i,u,h1,h2,h3⟩:=qf (C:=C) (row:=r) (by
     obtain⟨u,hu,hc⟩:=h
     rcases List.mem_cons.1 hu with e | e
     · subst e;exact absurd hc hx
     · exact⟨u,e,hc⟩)
    refine⟨i+1,u,by simpa using h1,h2,λj y hj hy=>?_⟩
    cases j with
    | zero=>
     have:x=y:=by simpa using hy
     subst this;exact hx
    | succ j=>exact h3 j y (by omega) (by simpa using hy)
theorem rN {g:Parity}{n:Nat}(h:GOk g n){v:Int}(hv:Xn n v):idx g.Arena.Owner v=some (b2i ((gI g).own v)):=by
 obtain⟨o,ho⟩:=ca (xs:=g.Arena.Owner) (i:=v) hv.1 (by have:=h.lo;have:=hv.2;omega)
 rw[ho]
 show _=some (b2i (ownL g.Arena.Owner v))
 unfold ownL
 rw[ho]
 rcases h.ow v o ho with rfl | rfl <;> rfl
end Go.Proofs.Ytpcjbkgbnoocaaa
set_option linter.unusedVariables false
set_option linter.unusedSimpArgs false
namespace Go.Proofs.Ytpcjbkgbnoocaaa
open Go Go.Wk Go.Proofs
open Classical
theorem qK {n:Nat}{W:Int->Prop}(hn:n<=256) (q:Bool):∃B,eu (wonL n W) (b2i q)=some B/\B.length=n/\In B=Par.Rg (Xn n) (wB W) q:=by
 have hl:=mq n W
 unfold eu
 rw[hl,cO (by omega) rfl,bt]
 obtain⟨s,h1,h2,h3⟩:=fillB (f:=eR (wonL n W) (b2i q)) (Par.Rg (Xn n) (wB W) q) n (s0:=hV n false) (by simp) (λj s hj hs=>by
  have hx:Xn n (j:Int):=⟨by omega,by omega⟩
  unfold eR
  rw[jI hx,bt,lb]
  have:(wB W (j:Int)==q)=decide (Par.Rg (Xn n) (wB W) q (j:Int)):=by
   rw[vD,decide_eq_true_iff]
   unfold Par.Rg
   simp[hx]
  rw[this]) (λv hv=>hv.1)
 rw[h1,bt,bD]
 exact⟨s,rfl,h2,funext λv=>propext (h3 v)⟩
theorem sy {n:Nat}{W:Int->Prop}(hn:n<=256) (p:List Int) (q:Bool):∃L,lM ⟨wonL n W,p⟩ (b2i q)=some L/\L.length<=n/\(∀v,v∈L↔Par.Rg (Xn n) (wB W) q v):=by
 have hl:=mq n W
 unfold lM
 dsimp only
 rw[hl,decide_eq_false (by omega),cond_false]
 obtain⟨s,h1,h2,h3⟩:=bO (f:=jy ⟨wonL n W,p⟩ (b2i q)) (λj (s:List Int)=>s.length<=j/\∀v,v∈s↔Par.Rg (Xn n) (wB W) q v/\v<j) n (s:=[]) ⟨by simp,λv=>⟨λh=>absurd h (by simp),λh=>by have:=h.1.1.1;omega⟩⟩ (λj s hj ⟨q1,q2⟩=>by
  have hx:Xn n (j:Int):=⟨by omega,by omega⟩
  unfold jy
  dsimp only
  rw[jI hx,bt,lb,app1 (by omega) rfl]
  cases hc:(wB W (j:Int)==q) with
  | true=>
   have hc:wB W (j:Int)=q:=by simpa using hc
   refine⟨_,rfl,by simp;omega,λv=>?_⟩
   rw[vF,q2,vy]
   constructor
   · rintro(⟨h1,h2⟩ | rfl)
     · exact⟨h1,by omega⟩
     · exact⟨⟨hx,hc⟩,by omega⟩
   · rintro⟨h1,h2⟩
     by_cases e:v=j
     · exact .inr e
     · exact .inl ⟨h1,by omega⟩
  | false=>
   have hc:¬wB W (j:Int)=q:=by simpa using hc
   refine⟨_,rfl,by omega,λv=>?_⟩
   rw[q2]
   constructor
   · rintro⟨h1,h2⟩
     exact⟨h1,by omega⟩
   · rintro⟨h1,h2⟩
     have:v≠j:=λe=>hc (by rw[← e];exact h1.2)
     exact⟨h1,by omega⟩)
 rw[h1,bt,bD]
 exact⟨s,rfl,h2,λv=>by rw[h3];exact⟨λh=>h.1,λh=>⟨h,h.1.2⟩⟩⟩
section
variable {g:Parity}{n:Nat}(hp:cn g=true) (hn:n=g.Prio.length){W:Int->Prop}(hW:Par.Sol (gI g) (Xn n) false W)
include hp hn hW
omit hW in
theorem uW {P:List (List Int)}(hP:PrevT g.Arena.Next n n P){k:List Int}(hk:k.length=n) (hI:Par.PInv (gI g) (Xn n) (wB W) (pkL k)){v:Int}(hv:Xn n v) (ho:(gI g).own v=wB W v){row:List Int}(hr:idx g.Arena.Next v=some row){i:Nat}{u:Int}(h1:row[i]? =some u)
 (h2:wB W u=wB W v/\Par.Dom (Par.pickG (gI g) (Par.updF (pkL k) v u)) (Par.Rg (Xn n) (wB W) (wB W v)) (wB W v) (Par.Rg (Xn n) (wB W) (wB W v)))
 (h3:∀(j:Nat) y,j<i->row[j]? =some y->¬(wB W y=wB W v/\Par.Dom (Par.pickG (gI g) (Par.updF (pkL k) v y)) (Par.Rg (Xn n) (wB W) (wB W v)) (wB W v) (Par.Rg (Xn n) (wB W) (wB W v))))
 {B:List Bool} (hB:B.length=n) (hBR:In B=Par.Rg (Xn n) (wB W) (wB W v)):
 ∃k',kF ⟨g.Arena.Owner,g.Prio,g.Arena.Next,P,k⟩ B v=some (u,k')/\k'.length=n/\pkL k'=Par.updF (pkL k) v u:=by
 have h:=GOk.of hp
 rw[← hn]at h
 have hnd:Par.NoDead (gI g) (Xn n):=lW h (mV hp)
 obtain⟨r1,r2,r3⟩:=h.row v row hr
 have hil:=(gs.1 h1).1
 have hn256:=h.n256
 unfold kF
 obtain⟨o,w1,w2⟩:=cm (f:=gX ⟨g.Arena.Owner,g.Prio,g.Arena.Next,P,k⟩ B v) (λj (t:Int×List Int)=>t.1=(j:Int)/\j<=i/\t.2.length=n/\∃z,pkL t.2=Par.updF (pkL k) v z) (λ(t:Int×List Int)=>t.1=u/\t.2.length=n/\pkL t.2=Par.updF (pkL k) v u) (λ_=>False) i (λj t ⟨a1,a2,a3,z,a4⟩=>by
  obtain⟨j',t⟩:=t
  dsimp only at a1 a3 a4
  subst a1
  have hjl:j<row.length:=by omega
  have hy:row[j]? =some row[j]:=bB hjl
  generalize row[j]=y at hy
  obtain⟨y0,y1⟩:=r3 y (it hy)
  have hyX:Xn n y:=⟨y0,y1⟩
  have hyE:(gI g).E v y:=by show y∈cK g.Arena v;rw[eO hr];exact it hy
  unfold gX
  dsimp only
  rw[hr,bt,decide_eq_true (show(j:Int)<(row.length:Int) by omega),cond_true,bt,bC,hy,bt,en (B:=B) y0 (by omega),bt]
  have hBy:decide (In B y)=(wB W y==wB W v):=by
   rw[vD,decide_eq_true_iff,hBR]
   unfold Par.Rg
   simp[hyX]
  have hw:IntKind.i64.wrap ((j:Int)+1)=((j+1:Nat):Int):=by rw[wr' (by omega) (by omega)];omega
  rw[hBy]
  cases hc:(wB W y==wB W v) with
  | false=>
   simp only[Bool.not_false,cond_true,hw]
   have hne:¬wB W y=wB W v:=by simpa using hc
   have:j≠i:=λe=>by subst e;rw[h1]at hy;cases hy;exact hne h2.1
   exact⟨_,rfl,by omega,rfl,by omega,a3,z,a4⟩
  | true=>
   have hwy:wB W y=wB W v:=by simpa using hc
   obtain⟨old,hold⟩:=ca (xs:=t) (i:=v) hv.1 (by have:=hv.2;omega)
   obtain⟨t',ht',htl⟩:=cr (xs:=t) (i:=v) y hv.1 (by have:=hv.2;omega)
   have hpk:pkL t'=Par.updF (pkL k) v y:=by rw[nu ht',a4,mR]
   have htn:t'.length=n:=by omega
   have hg:gS ⟨g.Arena.Owner,g.Prio,g.Arena.Next,P,t'⟩=Par.pickG (gI g) (Par.updF (pkL k) v y):=by rw[t0 h P htn,hpk]
   have hN:Par.NoDead (gS ⟨g.Arena.Owner,g.Prio,g.Arena.Next,P,t'⟩) (In B):=by
    rw[hg,hBR]
    exact hI.noDead hnd hyE hyX hwy _
   have hh:=tL (h.wfS hP htn) h.pri hB hN (wB W v)
   rw[hg,hBR]at hh
   simp only[vw,cond_false]
   rw[hold,bt,ht',bt,rN h hv,ho,bt,hh,bt]
   by_cases hd:Par.Dom (Par.pickG (gI g) (Par.updF (pkL k) v y)) (Par.Rg (Xn n) (wB W) (wB W v)) (wB W v) (Par.Rg (Xn n) (wB W) (wB W v))
   · rw[decide_eq_true hd,cond_true]
     have:¬j<i:=λhlt=>h3 j y hlt hy ⟨hwy,hd⟩
     have:j=i:=by omega
     subst this
     rw[h1]at hy;cases hy
     exact⟨_,rfl,rfl,htn,hpk⟩
   · rw[decide_eq_false hd,cond_false,hw]
     have:j≠i:=λe=>by subst e;rw[h1]at hy;cases hy;exact hd h2.2
     exact⟨_,rfl,by omega,rfl,by omega,htn,y,hpk⟩) (2 ^ 64) 0 (0,k) (by omega) ⟨rfl,by omega,hk,pkL k v,(oL rfl).symm⟩ (by omega)
 match o,w2 with
 | .inl t,w2=>
  obtain⟨b1,b2,b3⟩:=w2
  obtain⟨t1,t2⟩:=t
  dsimp only at b1 b2 b3
  subst b1
  rw[w1,bt,tF]
  exact⟨t2,rfl,b2,b3⟩
omit hW in
theorem uG {k:List Int}(hk:k.length=n) (hI:Par.PInv (gI g) (Xn n) (wB W) (pkL k)){v:Int}(hv:Xn n v) (hkv:pkL k v= -1){row:List Int}(hr:idx g.Arena.Next v=some row){i:Nat}{u:Int}(h1:row[i]? =some u)
 (h2:wB W u=wB W v/\Par.Dom (Par.pickG (gI g) (Par.updF (pkL k) v u)) (Par.Rg (Xn n) (wB W) (wB W v)) (wB W v) (Par.Rg (Xn n) (wB W) (wB W v)))
 (h3:∀(j:Nat) y,j<i->row[j]? =some y->¬(wB W y=wB W v/\Par.Dom (Par.pickG (gI g) (Par.updF (pkL k) v y)) (Par.Rg (Xn n) (wB W) (wB W v)) (wB W v) (Par.Rg (Xn n) (wB W) (wB W v))))
 {L:List Int} (hL:∀v',v'∈L↔Par.Rg (Xn n) (wB W) (wB W v) v'):
 ∃k',cntM (gN g (wonL n W) v L row) row.length 0 k=some (.inr k')/\k'.length=n/\pkL k'=Par.updF (pkL k) v u:=by
 have h:=GOk.of hp
 rw[← hn]at h
 have hnd:Par.NoDead (gI g) (Xn n):=lW h (mV hp)
 obtain⟨r1,r2,r3⟩:=h.row v row hr
 have hil:=(gs.1 h1).1
 have hn256:=h.n256
 have hLe:(λv'=>v'∈L)=Par.Rg (Xn n) (wB W) (wB W v):=funext λv'=>propext (hL v')
 obtain⟨o,w1,w2⟩:=qq (f:=gN g (wonL n W) v L row) (λj (t:List Int)=>j<=i/\t.length=n/\pkL t=pkL k) (λ_=>False) (λ(t:List Int)=>t.length=n/\pkL t=Par.updF (pkL k) v u) row.length (s:=k) ⟨by omega,hk,rfl⟩ (λj t hjl ⟨a2,a3,a4⟩=>by
  have hy:row[j]? =some row[j]:=bB hjl
  generalize row[j]=y at hy
  obtain⟨y0,y1⟩:=r3 y (it hy)
  have hyX:Xn n y:=⟨y0,y1⟩
  have hyE:(gI g).E v y:=by show y∈cK g.Arena v;rw[eO hr];exact it hy
  unfold gN
  rw[bC,hy,bt,jI hyX,bt,jI hv,bt]
  have hbne:(b2i (wB W y) !=b2i (wB W v))= !(wB W y==wB W v):=by unfold bne;rw[lb]
  rw[hbne]
  cases hc:(wB W y==wB W v) with
  | false=>
   simp only[Bool.not_false,cond_true]
   have hne:¬wB W y=wB W v:=by simpa using hc
   have:j≠i:=λe=>by subst e;rw[h1]at hy;cases hy;exact hne h2.1
   exact⟨_,rfl,by omega,a3,a4⟩
  | true=>
   have hwy:wB W y=wB W v:=by simpa using hc
   obtain⟨old,hold⟩:=ca (xs:=t) (i:=v) hv.1 (by have:=hv.2;omega)
   obtain⟨t',ht',htl⟩:=cr (xs:=t) (i:=v) y hv.1 (by have:=hv.2;omega)
   obtain⟨old',hold'⟩:=ca (xs:=t') (i:=v) hv.1 (by have:=hv.2;omega)
   obtain⟨t'',ht'',htl'⟩:=cr (xs:=t') (i:=v) (-1) hv.1 (by have:=hv.2;omega)
   have hpk:pkL t'=Par.updF (pkL k) v y:=by rw[nu ht',a4]
   have hpk':pkL t''=pkL k:=by rw[nu ht'',hpk,mR,oL hkv]
   have htn:t'.length=n:=by omega
   obtain⟨g',e1,e2,e3⟩:=tS hp hn htn (λx hx=>by
    rw[hpk]at hx ⊢
    unfold Par.updF at hx ⊢
    by_cases e:x=v
    · rw[if_pos e];subst e;exact hyE
    · rw[if_neg e]at hx ⊢
      exact(hI.pick x hx).2.2.1)
   rw[hpk]at e3
   have hN:Par.NoDead (gI g') (λv'=>v'∈L):=by
    rw[e3,hLe]
    exact hI.noDead hnd hyE hyX hwy _
   obtain⟨E,O,W',f1,f2,f3,f4,f5,f6⟩:=qJ e2 (L:=L) (λv' hv'=>((hL v').1 hv').1) hN
   rw[e3,hLe]at f2
   have hh:=Par.hold_iff (q:=wB W v) f2
   simp only[vw,cond_false]
   rw[hold,bt,ht',bt,e1,bt,f1,bt,bt]
   dsimp only
   have key:(bif !wB W v then((O.length:Int)==0) else((E.length:Int)==0))=decide (Par.Dom (Par.pickG (gI g) (Par.updF (pkL k) v y)) (Par.Rg (Xn n) (wB W) (wB W v)) (wB W v) (Par.Rg (Xn n) (wB W) (wB W v))):=by
    rw[vD,decide_eq_true_iff,← hh]
    cases hq:wB W v with
    | false=>
     simp only[Bool.not_false,cond_true]
     rw[show(((O.length:Int)==0)=true)↔O=[] from by simp]
     constructor
     · intro e x hx
       refine⟨λ_=>trivial,λ_=>?_⟩
       apply Classical.byContradiction
       intro hn'
       have:=(f4 x).2 ⟨(hL x).2 (by rw[hq];exact hx),hn'⟩
       rw[e]at this;cases this
     · intro ha
       cases hO:O with
       | nil=>rfl
       | cons x xs=>
        obtain⟨c1,c2⟩:=(f4 x).1 (by rw[hO];exact List.mem_cons_self ..)
        exact absurd ((ha x (by have:=(hL x).1 c1;rwa [hq]at this)).2 trivial) c2
    | true=>
     simp only[vw,cond_false]
     rw[show(((E.length:Int)==0)=true)↔E=[] from by simp]
     constructor
     · intro e x hx
       refine⟨λhw'=>?_,λh'=>absurd h' (by decide)⟩
       have:=(f3 x).2 hw'
       rw[e]at this;cases this
     · intro ha
       cases hE:E with
       | nil=>rfl
       | cons x xs=>
        have c1:=(f3 x).1 (by rw[hE];exact List.mem_cons_self ..)
        have:=(ha x (by have:=f2.sub x c1;rwa [hq]at this)).1 c1
        cases this
   have e0:∀(a b q:Bool) {β:Type} (F:Bool->Option β),(br (bif (b2i q==0) then some a else some false) λp88=>br (bif p88 then some true else br (some (b2i q)) λx92=>br (bif (x92==1) then some b else some false) λp99=>some p99) F)=F (bif !q then a else b):=by
    intro a b q β F
    cases q <;> cases a <;> cases b <;> rfl
   rw[e0,key]
   by_cases hd:Par.Dom (Par.pickG (gI g) (Par.updF (pkL k) v y)) (Par.Rg (Xn n) (wB W) (wB W v)) (wB W v) (Par.Rg (Xn n) (wB W) (wB W v))
   · rw[decide_eq_true hd,cond_true]
     have:¬j<i:=λhlt=>h3 j y hlt hy ⟨hwy,hd⟩
     have:j=i:=by omega
     subst this
     rw[h1]at hy;cases hy
     exact⟨_,rfl,htn,hpk⟩
   · rw[decide_eq_false hd,cond_false,hold',bt,ht'',bt]
     have:j≠i:=λe=>by subst e;rw[h1]at hy;cases hy;exact hd h2.2
     exact⟨_,rfl,by omega,by omega,hpk'⟩)
 match o,w2 with
 | .inr t,w2=>
  rcases w2 with ⟨hle,_⟩ | w2
  · omega
  · exact⟨t,w1,w2.1,w2.2⟩
omit hp hn hW in
theorem lU {n:Nat}(v:Int):pkL (hV n (-1)) v= -1:=by
 unfold pkL
 cases h:idx (hV n (-1:Int)) v with
 | none=>rfl
 | some x=>
  obtain⟨v0,v1⟩:=ci h
  rw[cD v0,vt]at h
  split at h
  · cases h;rfl
  · cases h
omit hW in
theorem qV {A:List Int}(hA:ga g=some A) (hAl:A.length<=256):ja g (hV n (-1))=some true:=by
 have h:=GOk.of hp
 rw[← hn]at h
 obtain⟨h1,h2,h3,h4,h5⟩:=dq hp
 have hO:kT g (hV n (-1))=some (g,true):=by
  unfold kT
  rw[lJ,hp,bt]
  have hP:jQ g (hV n (-1))=some true:=by
   unfold jQ
   rw[List.length_replicate,← hn]
   have:=cU (f:=fC g (hV n (-1))) (r:=false) (λ_:Int=>true) (xs:=hV n (-1)) (n:=n) (by simp) (λi x hx=>by
    unfold fC
    have hx':x= -1:=by
     rw[vt]at hx
     split at hx
     · cases hx;rfl
     · cases hx
    rw[bC,hx,bt,hx'];rfl)
   rw[this]
   simp only[bne_self_eq_false,cond_false,List.all_eq_true,implies_true,if_true,bt,bD]
  rw[hP]
  simp only[vw,cond_false,bt]
  rw[qO (by have:=h.lo;have:=h.n256;omega),bt,qO (by omega),bt,List.length_replicate]
  obtain⟨s,e1,e2⟩:=bO (f:=hH g (hV n (-1))) (λj (s:List (List Int))=>s=g.Arena.Next.take j) n (s:=[]) rfl (λj s hj hs=>by
   subst hs
   have hx:g.Arena.Next[j]? =some (g.Arena.Next[j]'(by have:=h.ln;omega)):=bB (by have:=h.ln;omega)
   generalize g.Arena.Next[j]'(by have:=h.ln;omega)=row at hx
   obtain⟨r1,_,_⟩:=h.row (j:Int) row (by rw[bC];exact hx)
   have hk:idx (hV n (-1:Int)) (j:Int)=some (-1):=by rw[bC,vt,if_pos hj]
   unfold hH
   rw[bC,hx,bt,qO (by omega),bt,hk,bt]
   simp only[show decide ((0:Int)<= -1)=false from rfl,cond_false,bt]
   rw[app1 (by rw[vB];omega) rfl,bt]
   refine⟨_,rfl,?_⟩
   rw[vG,hx];rfl)
  rw[e1,e2,bt,bD,List.take_of_length_le (by have:=h.ln;omega)]
 unfold ja
 rw[hO,bt]
 dsimp only
 rw[cond_true,hA,bt,bt]
 have hS:kY A A=some true:=by
  unfold kY
  have:=cU (f:=hU A A) (r:=false) (λ_:Int=>true) (xs:=A) (n:=A.length) rfl (λi x hx=>by
   unfold hU
   rw[bC,hx,bt,bt]
   simp)
  rw[this]
  simp only[bne_self_eq_false,cond_false,List.all_eq_true,implies_true,if_true,bt,bD]
 rw[hS];rfl
theorem rA (hA:ga g=some (wonL n W)):∃k,iJ g (hV n (-1))=some (⟨wonL n W,k⟩,true)/\lY g (hV n (-1)) (wonL n W)=some ⟨wonL n W,k⟩/\k.length=n/\(∀v x,idx k v=some x->x= -1\/0<=x)/\Par.Ans (gI g) (Xn n) (wB W) (pkL k):=by
 have h:=GOk.of hp
 rw[← hn]at h
 have hn256:=h.n256
 have hwl:=mq n W
 obtain⟨P,p1,p2⟩:=r7 h
 obtain⟨B0,c1,c2,c3⟩:=qK (W:=W) hn256 false
 obtain⟨B1,d1,d2,d3⟩:=qK (W:=W) hn256 true
 have c1:eu (wonL n W) 0=some B0:=c1
 have d1:eu (wonL n W) 1=some B1:=d1
 unfold iJ lY
 rw[qV hp hn hA (by omega),bt,hA,p1,List.length_replicate,appL (by simp;omega) rfl]
 simp only[vw,cond_false,bt,List.nil_append,List.length_replicate,hwl]
 obtain⟨s0,e1,e2⟩:=bO (f:=fb g (hV n (-1)) (wonL n W)) (λj (s:List Int)=>s=hV n (-1)) n (s:=hV n (-1)) rfl (λj s hj hs=>by
  subst hs
  have hk:idx (hV n (-1:Int)) (j:Int)=some (-1):=by rw[bC,vt,if_pos hj]
  unfold fb
  rw[hk]
  simp only[bt,show((-1:Int) != -1)=false from rfl,cond_false]
  rw[mF (by simp;omega),bt]
  refine⟨_,rfl,?_⟩
  apply List.ext_getElem?
  intro i
  rw[List.getElem?_set]
  simp only[vt,List.length_replicate]
  split
  · rename_i e;subst e;rw[if_pos hj]
  · rfl)
 subst e2
 rw[e1,bt,bD,c1,bt,d1,bt]
 obtain⟨s,t,f1,f2,rfl,f3,f4,f5,f6,f7⟩:=pu (f:=fc g (wonL n W) ⟨g.Arena.Owner,g.Prio,g.Arena.Next,P,hV n (-1)⟩ B0 B1) (g:=jx g (wonL n W)) (λj (s t:List Int)=>s=t/\s.length=n/\Par.PInv (gI g) (Xn n) (wB W) (pkL s)/\(∀i:Nat,j<=i->pkL s i= -1)/\(∀v,Xn n v->v<j->(gI g).own v=wB W v->0<=pkL s v)/\(∀v x,idx s v=some x->x= -1\/0<=x)) n (s:=hV n (-1)) (t:=hV n (-1)) ⟨rfl,by simp,Par.PInv.start hW (λv _=>sQ) (λv=>by rw[lU];decide),λi _=>lU _,λv hv hj=>by have:=hv.1;omega,λv x hx=> .inl (by rw[← o4 hx];exact lU v)⟩ (λj s t hj ⟨e,g1,g2,g3,g4,g5⟩=>by
  subst e
  have hv:Xn n (j:Int):=⟨by omega,by omega⟩
  have hkj:=lz g1 hv.1 hv.2
  rw[g3 j (Nat.le_refl j)]at hkj
  unfold fc jx
  rw[hkj,jI hv,rN h hv]
  simp only[bt,show decide ((0:Int)<= -1)=false from rfl,cond_false]
  by_cases ho:(gI g).own (j:Int)=wB W (j:Int)
  · -- a pick
    obtain⟨row,hr⟩:=ca (xs:=g.Arena.Next) (i:=(j:Int)) (by omega) (by have:=h.ln;omega)
    obtain⟨u,u1,u2,u3,u4⟩:=g2.ex hv ho (by rw[g3 j (Nat.le_refl j)];decide)
    obtain⟨i,u,h1,h2,h3⟩:=qf (row:=row) (C:=λu=>wB W u=wB W (j:Int)/\Par.Dom (Par.pickG (gI g) (Par.updF (pkL s) j u)) (Par.Rg (Xn n) (wB W) (wB W j)) (wB W j) (Par.Rg (Xn n) (wB W) (wB W j))) ⟨u,by have:u∈cK g.Arena j:=u1;rwa [eO hr]at this,u3,u4⟩
    have huE:(gI g).E (j:Int) u:=by show u∈cK g.Arena j;rw[eO hr];exact it h1
    have huX:=(vg h huE).2
    obtain⟨L,l1,l2,l3⟩:=sy (W:=W) hn256 [] (wB W (j:Int))
    obtain⟨B,hB1,hB2,hB3⟩:∃B,(bif (b2i (wB W (j:Int))==1) then some B1 else some B0)=some B/\B.length=n/\In B=Par.Rg (Xn n) (wB W) (wB W j):=by
     cases hq:wB W (j:Int) with
     | true=>exact⟨B1,rfl,d2,d3⟩
     | false=>exact⟨B0,rfl,c2,c3⟩
    obtain⟨k',k1,k2,k3⟩:=uW hp hn p2 g1 g2 hv ho hr h1 h2 h3 hB2 hB3
    obtain⟨k'',m1,m2,m3⟩:=uG hp hn g1 g2 hv (g3 j (Nat.le_refl j)) hr h1 h2 h3 l3
    have:k''=k':=rY m2 k2 (by rw[m3,k3])
    subst this
    obtain⟨old,hold⟩:=ca (xs:=k'') (i:=(j:Int)) (by omega) (by omega)
    obtain⟨z,hz,hzl⟩:=cr (xs:=k'') (i:=(j:Int)) u (by omega) (by omega)
    have:z=k'':=rY (n:=n) (by omega) k2 (by rw[nu hz,k3,mR])
    subst this
    have e1':(b2i (wB W (j:Int)) !=b2i ((gI g).own (j:Int)))=false:=by rw[ho];simp
    have e2':(b2i ((gI g).own (j:Int)) !=b2i (wB W (j:Int)))=false:=by rw[ho];simp
    rw[e1',e2',cond_false,cond_false,bt,cond_false,hB1,bt,k1,bt]
    dsimp only
    rw[hold,bt,hz,bt,l1,bt,hr,bt,m1,bt,bD]
    refine⟨_,_,rfl,rfl,rfl,k2,?_,λi' hi'=>?_,λv hvx hvj hvo=>?_,λv x hx=>?_⟩
    · rw[k3];exact g2.step hv ho huE huX h2.1 h2.2
    · rw[k3]
      unfold Par.updF
      rw[if_neg (by omega)]
      exact g3 i' (by omega)
    · rw[k3]
      unfold Par.updF
      by_cases e:v=j
      · rw[if_pos e];exact huX.1
      · rw[if_neg e];exact g4 v hvx (by omega) hvo
    · have:=o4 hx
      rw[k3]at this
      unfold Par.updF at this
      by_cases e:v=j
      · rw[if_pos e]at this;rw[← this];exact .inr huX.1
      · rw[if_neg e]at this
        obtain⟨v0,v1⟩:=ci hx
        have hs:=lz g1 v0 (by omega)
        rw[this]at hs
        exact g5 v x hs
  · have e1':(b2i (wB W (j:Int)) !=b2i ((gI g).own (j:Int)))=true:=by
     unfold bne;rw[lb]
     cases hx:wB W (j:Int) <;> cases hy:(gI g).own (j:Int) <;> simp_all
    have e2':(b2i ((gI g).own (j:Int)) !=b2i (wB W (j:Int)))=true:=by
     unfold bne;rw[lb]
     cases hx:wB W (j:Int) <;> cases hy:(gI g).own (j:Int) <;> simp_all
    rw[e1',e2',cond_true,cond_true,bt,cond_true]
    refine⟨_,_,rfl,rfl,rfl,g1,g2,λi' hi'=>g3 i' (by omega),λv hvx hvj hvo=>?_,g5⟩
    have:v≠j:=λe=>ho (by rw[← e];exact hvo)
    exact g4 v hvx (by omega) hvo)
 rw[f1,f2,bt,bt,bD,bD,appL (by simp;omega) rfl,bt,List.nil_append]
 exact⟨s,rfl,rfl,f3,f7,f4.ans λv hv hvo=>f6 v hv hv.2 hvo⟩
end
end Go.Proofs.Ytpcjbkgbnoocaaa
set_option linter.unusedVariables false
set_option linter.unusedSimpArgs false
namespace Go.Proofs.Ytpcjbkgbnoocaaa
open Go Go.Wk Go.Proofs
open Classical
theorem qE {g:Parity}{n:Nat}(h:GOk g n):nR g.Arena=some (hV n (-1)):=by
 have hn:=h.n256
 unfold nR
 rw[h.lo,cO (by omega) rfl,bt,List.length_replicate]
 obtain⟨s,h1,h2,h3⟩:=fill (f:=nc) (λ_=> -1) n (s0:=hV n 0) (by simp) (λj s hj hs=>rfl)
 rw[h1,bt,bD]
 congr 1
 apply List.ext_getElem?
 intro i
 rw[vt]
 by_cases hi:i<n
 · rw[if_pos hi,← bC];exact h3 i hi
 · rw[if_neg hi];exact vE (by omega)
theorem qa {n:Nat}(hn:n<=256):kC (n:Int)=some (hV n (-1)):=by
 unfold kC
 have hr:rng (n:Int)=some ():=by
  unfold rng
  first
   | rfl
   | rw[if_pos (by omega)]
 rw[hr,bt,show Int.toNat ((n:Int)-0)=n from by omega]
 obtain⟨s,h1,h2⟩:=bO (f:=g7) (λj (s:List Int)=>s=hV j (-1)) n (s:=[]) rfl (λj s hj hs=>by
  subst hs
  unfold g7
  rw[app1 (by simp;omega) rfl,bt]
  exact⟨_,rfl,by rw[List.replicate_succ']⟩)
 rw[h1,bt,bD,h2]
structure Solv (g:Parity) (W:Int->Prop) (k:List Int):Prop where
 sol:Par.Sol (gI g) (Xn g.Prio.length) false W
 len:k.length=g.Prio.length
 pick:∀v x,idx k v=some x->x= -1\/0<=x
 ans:Par.Ans (gI g) (Xn g.Prio.length) (wB W) (pkL k)
theorem qi {g:Parity}(hp:cn g=true):∃W k,jU g=some ⟨wonL g.Prio.length W,k⟩/\mg g=some ⟨wonL g.Prio.length W,k⟩/\ga g=some (wonL g.Prio.length W)/\iy g=some (wonL g.Prio.length W)/\Solv g W k:=by
 have h:=GOk.of hp
 obtain⟨W,a1,a2,a3⟩:=sP h (mV hp)
 obtain⟨k,k1,k2,k3,k4,k5⟩:=rA hp rfl a3 a1
 refine⟨W,k,?_,?_,a1,a2,a3,k3,k4,k5⟩
 · unfold jU
   rw[lJ,hp,bt,vw,cond_false,qa h.n256,bt,k1];rfl
 · unfold mg
   rw[oq,hp,bt,vw,cond_false,qE h,bt,a2,bt,k2];rfl
end Go.Proofs.Ytpcjbkgbnoocaaa
set_option linter.unusedVariables false
set_option linter.unusedSimpArgs false
namespace Go.Proofs.Ytpcjbkgbnoocaaa
open Go Go.Wk Go.Proofs
def ek (xs:List Int) (v:Int):Int:=match xs.findIdx? (λx=>v==x) with | some i=>(i:Int) | none=> -1
theorem sc {xs:List Int}{v:Int}(h:v∉xs):ek xs v= -1:=by
 unfold ek
 have:xs.findIdx? (λx=>v==x)=none:=by
  rw[List.findIdx?_eq_none_iff]
  intro x hx
  simp only[beq_eq_false_iff_ne]
  exact λe=>h (e ▸ hx)
 rw[this]
end Go.Proofs.Ytpcjbkgbnoocaaa
set_option linter.unusedVariables false
set_option linter.unusedSimpArgs false
namespace Go.Proofs.Ytpcjbkgbnoocaaa
open Go Go.Wk Go.Proofs
theorem pX (xs:List Int) (v:Int):jF xs v=some (ek xs v):=by
 unfold jF ek
 rw[ee (f:=fK xs v) (λx=>v==x) (λi=>(i:Int)) (xs:=xs) (λi x hx=>by
  unfold fK
  rw[bC,hx,bt,show(x==v)=(v==x) from BEq.comm]
  cases v==x <;> rfl),bt]
 cases xs.findIdx? (λx=>v==x) <;> rfl
end Go.Proofs.Ytpcjbkgbnoocaaa
set_option linter.unusedVariables false
set_option linter.unusedSimpArgs false
namespace Go.Proofs.Ytpcjbkgbnoocaaa
open Go Go.Wk Go.Proofs
theorem qA (xs:List Int) (v:Int):cH xs v=some (ek xs v):=fB xs v
end Go.Proofs.Ytpcjbkgbnoocaaa
set_option linter.unusedVariables false
set_option linter.unusedSimpArgs false
namespace Go.Proofs.Ytpcjbkgbnoocaaa
open Go Go.Wk Go.Proofs
def addN (xs:List Int) (u:Int):List Int:=if u∈xs then xs else xs++[u]
theorem sj {xs:List Int}{u:Int}(h:u∉xs):ek (xs++[u]) u=(xs.length:Nat):=by
 unfold ek
 have:(xs++[u]).findIdx? (λx=>u==x)=some xs.length:=by
  rw[List.findIdx?_append]
  have h1:xs.findIdx? (λx=>u==x)=none:=by
   rw[List.findIdx?_eq_none_iff]
   intro x hx
   simp only[beq_eq_false_iff_ne]
   exact λe=>h (e ▸ hx)
  rw[h1]
  simp
 rw[this]
def Names (n:Nat) (xs:List Int):Prop:=xs.Nodup/\∀x∈xs,0<=x/\x<n
theorem Names.len {n:Nat}{xs:List Int}(h:Names n xs):xs.length<=n:=eD n xs h.1 h.2
theorem Names.add {n:Nat}{xs:List Int}(h:Names n xs){u:Int}(u0:0<=u) (u1:u<n):Names n (addN xs u)/\∀(k:Nat) v,xs[k]? =some v->(addN xs u)[k]? =some v:=by
 unfold addN
 by_cases hu:u∈xs
 · rw[if_pos hu];exact⟨h,λk v hk=>hk⟩
 · rw[if_neg hu]
   refine⟨⟨?_,λx hx=>?_⟩,λk v hk=>?_⟩
   · rw[List.nodup_append]
     refine⟨h.1,by simp,λa ha c hc e=>?_⟩
     rw[vy]at hc
     exact hu (by rw[← hc,← e];exact ha)
   · rw[vF,vy]at hx
     rcases hx with hx | rfl
     · exact h.2 x hx
     · exact⟨u0,u1⟩
   · rw[List.getElem?_append_left (gs.1 hk).1];exact hk
end Go.Proofs.Ytpcjbkgbnoocaaa
set_option linter.unusedVariables false
set_option linter.unusedSimpArgs false
namespace Go.Proofs.Ytpcjbkgbnoocaaa
open Go Go.Wk Go.Proofs
theorem uy {x k:Place}(h:(x.At==k.At&&x.Record==k.Record)=true):x=k:=by
 rw[vv,beq_iff_eq,beq_iff_eq]at h
 cases x
 cases k
 simp only at h
 rw[h.1,h.2]
def locR (K:List Place) (k:Place):Option Nat:=K.findIdx? (λx=>x.At==k.At&&x.Record==k.Record)
def addR (K:List Place) (k:Place):List Place:=match locR K k with | some _=>K | none=>K++[k]
def atR (K:List Place) (k:Place):Int:=match locR K k with | some i=>(i:Int) | none=>(K.length:Int)
theorem qD (K:List Place) (k:Place):K.length<=(addR K k).length/\(addR K k).length<=K.length+1:=by
 unfold addR
 cases locR K k <;> simp
theorem qm {K:List Place}{k:Place}{i:Nat}{v:Place}(h:K[i]? =some v):(addR K k)[i]? =some v:=by
 unfold addR
 cases locR K k with
 | some _=>exact h
 | none=>
  have:=(gs.1 h).1
  dsimp only
  rw[List.getElem?_append_left this];exact h
theorem tt {K:List Place}{k x:Place}(h:x∈addR K k):x∈K\/x=k:=by
 unfold addR at h
 cases e:locR K k with
 | some _=>rw[e]at h;exact .inl h
 | none=>rw[e]at h;simpa using h
theorem se {K:List Place}{k:Place}{i:Nat}(h:locR K k=some i):K[i]? =some k:=by
 unfold locR at h
 obtain⟨h1,h2,h3⟩:=List.findIdx?_eq_some_iff_getElem.1 h
 have:k=K[i]:=(uy h2).symm
 rw[bB h1,← this]
theorem si {K:List Place}{k:Place}(h:locR K k=none):k∉K:=λhm=>by
 unfold locR at h
 rw[List.findIdx?_eq_none_iff]at h
 have:=h k hm
 simp at this
theorem t9 (K:List Place) (k:Place):0<=atR K k/\(addR K k)[(atR K k).toNat]? =some k:=by
 unfold atR addR
 cases h:locR K k with
 | none=>exact⟨by dsimp only;omega,by dsimp only;rw[Int.toNat_natCast];simp⟩
 | some i=>exact⟨by dsimp only;omega,by dsimp only;rw[Int.toNat_natCast];exact se h⟩
theorem rm {K:List Place}(hn:K.Nodup) (k:Place):(addR K k).Nodup:=by
 unfold addR
 cases h:locR K k with
 | none=>
  dsimp only
  refine List.nodup_append.2 ⟨hn,by simp,λa ha b hb e=>?_⟩
  rw[vy]at hb
  exact si h (hb ▸ e ▸ ha)
 | some i=>exact hn
def da (ky:Nat->Place) (K:List Place):Nat->List Place×List Int
 | 0=>(K,[])
 | j+1=>(addR (da ky K j).1 (ky j),(da ky K j).2++[atR (da ky K j).1 (ky j)])
structure RowR (ky:Nat->Place) (K:List Place) (j:Nat) (K':List Place) (row:List Int):Prop where
 pre:∀(i:Nat) v,K[i]? =some v->K'[i]? =some v
 len:K.length<=K'.length
 le:K'.length<=K.length+j
 nod:K.Nodup->K'.Nodup
 rl:row.length=j
 at_:∀i:Nat,i<j->∃x,row[i]? =some x/\0<=x/\K'[x.toNat]? =some (ky i)
 mem:∀v∈K',v∈K\/∃i:Nat,i<j/\v=ky i
theorem j9 (ky:Nat->Place) (K:List Place):∀j,RowR ky K j (da ky K j).1 (da ky K j).2
 | 0=>⟨λ_ _ h=>h,Nat.le_refl _,Nat.le_refl _,id,rfl,λi hi=>absurd hi (Nat.not_lt_zero i),λv h=> .inl h⟩
 | j+1=>by
  have h:=j9 ky K j
  unfold da
  generalize da ky K j=F at *
  have hl:=qD F.1 (ky j)
  obtain⟨a0,a1⟩:=t9 F.1 (ky j)
  refine⟨λi v hv=>qm (h.pre i v hv),Nat.le_trans h.len hl.1,?_,λhn=>rm (h.nod hn) _,by simp[h.rl],λi hi=>?_,λv hv=>?_⟩
  · have:=h.le;dsimp only;omega
  · by_cases e:i=j
    · subst e
      refine⟨_,by rw[← h.rl];simp,a0,a1⟩
    · obtain⟨x,x1,x2,x3⟩:=h.at_ i (by omega)
      have hix:=(gs.1 x1).1
      exact⟨x,by rw[List.getElem?_append_left hix];exact x1,x2,qm x3⟩
  · rcases tt hv with hv | hv
    · rcases h.mem v hv with k | ⟨i,hi,e⟩
      · exact .inl k
      · exact .inr ⟨i,by omega,e⟩
    · exact .inr ⟨j,by omega,hv⟩
end Go.Proofs.Ytpcjbkgbnoocaaa
set_option linter.unusedVariables false
set_option linter.unusedSimpArgs false
namespace Go.Proofs.Ytpcjbkgbnoocaaa
open Go Go.Wk Go.Proofs
def dQ (ps:List Pair) (v i:Int):Bool:=match idx ps i with | some p=>decide (v∈p.Give) | none=>false
def askI (ps:List Pair) (v i:Int):Bool:=match idx ps i with | some p=>decide (v∈p.Ask) | none=>false
def gq (ps:List Pair) (rc:List Int) (v:Int):List Int:=rc.filter (dQ ps v)++rc.filter λi=> !dQ ps v i
def eY (f:Int->Bool) (xs:List Int):Nat->Int
 | 0=> -1
 | j+1=>bif (match xs[j]? with | some x=>f x | none=>false) then(j:Int) else eY f xs j
def nI (ps:List Pair) (rc:List Int) (v:Int):Int:=
 bif decide (eY (askI ps v) rc rc.length<0)&&decide (eY (dQ ps v) rc rc.length<0) then 0
 else bif decide (eY (dQ ps v) rc rc.length<eY (askI ps v) rc rc.length) then 2 * eY (askI ps v) rc rc.length+1
 else 2 * eY (dQ ps v) rc rc.length+2
theorem kU (f:Int->Bool) (xs:List Int):∀j:Nat,-1<=eY f xs j/\eY f xs j<j
 | 0=>by unfold eY;omega
 | j+1=>by
  have:=kU f xs j
  unfold eY
  cases(match xs[j]? with | some x=>f x | none=>false) with
  | true=>rw[cond_true];omega
  | false=>rw[cond_false];omega
theorem sE (ps:List Pair){rc:List Int}(v:Int) (h:rc.length<=4):inR 41 (nI ps rc v)=true:=by
 have a:=kU (askI ps v) rc rc.length
 have g:=kU (dQ ps v) rc rc.length
 rw[ej]
 unfold nI
 generalize eY (askI ps v) rc rc.length=x at *
 generalize eY (dQ ps v) rc rc.length=y at *
 by_cases h1:x<0
 · by_cases h2:y<0
   · simp[h1,h2]
   · by_cases h3:y<x
     · omega
     · simp only[h1,h2,h3,decide_true,decide_false,Bool.and_false,cond_false];omega
 · by_cases h3:y<x
   · simp only[h1,h3,decide_true,decide_false,Bool.false_and,cond_false,cond_true];omega
   · simp only[h1,h3,decide_false,Bool.false_and,cond_false];omega
theorem nD (p:Int->Bool):∀xs:List Int,(xs.filter p).length+(xs.filter λx=> !p x).length=xs.length
 | []=>rfl
 | x::xs=>by
  have:=nD p xs
  simp only[List.filter_cons]
  cases p x <;> simp <;> omega
theorem p9 (ps:List Pair){rc:List Int}{k:Nat}(v:Int) (hl:rc.length=k) (hr:∀x∈rc,0<=x/\x<(k:Int)):(gq ps rc v).length=k/\∀x∈gq ps rc v,0<=x/\x<(k:Int):=by
 unfold gq
 refine⟨by rw[vx,nD,hl],λx hx=>?_⟩
 rcases vF.1 hx with h | h
 · exact hr x (List.mem_filter.1 h).1
 · exact hr x (List.mem_filter.1 h).1
structure VOk (n k:Nat) (v:Place):Prop where
 a0:0<=v.At
 a1:v.At<(n:Int)
 rl:v.Record.length=k
 rin:∀x∈v.Record,0<=x/\x<(k:Int)
def kyR (ar rc:List Int) (i:Nat):Place:=⟨ar.getD i 0,rc⟩
structure RowP (P:List Place) (ar rc r:List Int):Prop where
 asc:Asc r
 len:r.length=ar.length
 to:∀y∈r,0<=y/\∃u∈ar,P[y.toNat]? =some ⟨u,rc⟩
 has:∀u∈ar,∃y∈r,0<=y/\P[y.toNat]? =some ⟨u,rc⟩
theorem RowP.mono {P P':List Place}{ar rc r:List Int}(h:RowP P ar rc r) (hp:∀(i:Nat) v,P[i]? =some v->P'[i]? =some v):RowP P' ar rc r:=
 ⟨h.asc,h.len,λy hy=>by
  obtain⟨a,u,b,c⟩:=h.to y hy
  exact⟨a,u,b,hp _ _ c⟩,λu hu=>by
  obtain⟨y,a,b,c⟩:=h.has u hu
  exact⟨y,a,b,hp _ _ c⟩⟩
theorem rq {ar rc:List Int}{P:List Place}(hn:ar.Nodup):(da (kyR ar rc) P ar.length).2.Nodup:=by
 have r:=j9 (kyR ar rc) P ar.length
 generalize da (kyR ar rc) P ar.length=G at *
 have hrl:=r.rl
 refine List.pairwise_iff_getElem.2 λi j hi hj hij e=>?_
 obtain⟨x,x1,_,x3⟩:=r.at_ i (by omega)
 obtain⟨y,y1,_,y3⟩:=r.at_ j (by omega)
 rw[bB hi]at x1
 rw[bB hj]at y1
 have hxy:x=y:=by rw[← Option.some.inj x1,← Option.some.inj y1];exact e
 subst hxy
 rw[x3]at y3
 have:=congrArg Place.At (Option.some.inj y3)
 simp only[kyR,List.getD_eq_getElem?_getD,bB (show i<ar.length by omega),bB (show j<ar.length by omega),Option.getD_some]at this
 exact(List.pairwise_iff_getElem.1 hn) i j (by omega) (by omega) hij this
theorem tZ {ar rc:List Int}{P:List Place}{S:List Int}(hS:Asc S) (hl:S.length=ar.length) (hm:∀y,y∈S↔y∈(da (kyR ar rc) P ar.length).2):RowP (da (kyR ar rc) P ar.length).1 ar rc S:=by
 have r:=j9 (kyR ar rc) P ar.length
 generalize da (kyR ar rc) P ar.length=G at *
 have hrl:=r.rl
 have hky:∀i,i<ar.length->kyR ar rc i=⟨ar.getD i 0,rc⟩/\ar.getD i 0∈ar:=λi hi=>⟨rfl,by
  rw[List.getD_eq_getElem?_getD,bB hi]
  exact List.getElem_mem hi⟩
 refine⟨hS,hl,λy hy=>?_,λu hu=>?_⟩
 · obtain⟨i,hi⟩:=List.getElem?_of_mem ((hm y).1 hy)
   have hlt:=(gs.1 hi).1
   obtain⟨x,x1,x2,x3⟩:=r.at_ i (by omega)
   rw[hi]at x1
   cases x1
   obtain⟨k1,k2⟩:=hky i (by omega)
   exact⟨x2,_,k2,by rw[x3,k1]⟩
 · obtain⟨i,hi⟩:=List.getElem?_of_mem hu
   have hlt:=(gs.1 hi).1
   obtain⟨x,x1,x2,x3⟩:=r.at_ i hlt
   refine⟨x,(hm x).2 (it x1),x2,?_⟩
   rw[x3]
   unfold kyR
   rw[List.getD_eq_getElem?_getD,hi];rfl
structure RecS (a:Arena) (ps:List Pair) (st:Place) (P:List Place) (i:Nat) (O:List Int) (N:List (List Int)) (Q:List Int):Prop where
 nod:P.Nodup
 zero:P[0]? =some st
 il:i<=P.length
 ol:O.length=i
 nl:N.length=i
 ql:Q.length=i
 inn:∀v∈P,VOk a.Owner.length ps.length v
 row:∀(j:Nat) v,j<i->P[j]? =some v->O[j]? =idx a.Owner v.At/\Q[j]? =some (nI ps v.Record v.At)/\∃r ar,N[j]? =some r/\idx a.Next v.At=some ar/\RowP P ar (gq ps v.Record v.At) r
theorem RecS.init {a:Arena}{ps:List Pair}{st:Place}(h:VOk a.Owner.length ps.length st):RecS a ps st [st] 0 [] [] []:=
 ⟨by simp,rfl,by simp,rfl,rfl,rfl,λv hv=>by rw[vy.1 hv];exact h,λj v hj=>absurd hj (Nat.not_lt_zero j)⟩
theorem RecS.step {a:Arena}{ps:List Pair}{st:Place}{P:List Place}{i:Nat}{O:List Int}{N:List (List Int)}{Q:List Int}(h:RecS a ps st P i O N Q){v:Place}(hv:P[i]? =some v){ar:List Int}(har:idx a.Next v.At=some ar) (hin:∀u∈ar,0<=u/\u<(a.Owner.length:Int)){o:Int}(ho:idx a.Owner v.At=some o){S:List Int}
 (hS:Asc S) (hSl:S.length=ar.length) (hSm:∀y,y∈S↔y∈(da (kyR ar (gq ps v.Record v.At)) P ar.length).2):
 RecS a ps st (da (kyR ar (gq ps v.Record v.At)) P ar.length).1 (i+1) (O++[o]) (N++[S]) (Q++[nI ps v.Record v.At]):=by
 have hP:=tZ hS hSl hSm
 have r:=j9 (kyR ar (gq ps v.Record v.At)) P ar.length
 have hvo:=h.inn v (it hv)
 have hn:=p9 ps v.At hvo.rl hvo.rin
 have hky:∀x,x<ar.length->VOk a.Owner.length ps.length (kyR ar (gq ps v.Record v.At) x):=λx hx=>by
  have hm:ar.getD x 0∈ar:=by
   rw[List.getD_eq_getElem?_getD,bB hx]
   exact List.getElem_mem hx
  obtain⟨u0,u1⟩:=hin _ hm
  exact⟨u0,u1,hn.1,hn.2⟩
 generalize da (kyR ar (gq ps v.Record v.At)) P ar.length=G at *
 have hiP:=(gs.1 hv).1
 have h1:=h.ol
 have h2:=h.nl
 have h3:=h.ql
 have hlen:=r.len
 refine⟨r.nod h.nod,r.pre 0 _ h.zero,by omega,by simp[h1],by simp[h2],by simp[h3],λu hu=>?_,λj u hj hu=>?_⟩
 · rcases r.mem u hu with hm | ⟨x,hx,e⟩
   · exact h.inn u hm
   · rw[e];exact hky x hx
 · by_cases e:j=i
   · subst e
     have huv:u=v:=by
      have:=r.pre j v hv
      rw[hu]at this
      exact Option.some.inj this
     subst huv
     refine⟨by rw[← h1,ho];simp,by rw[← h3];simp,S,ar,by rw[← h2];simp,har,hP⟩
   · have hj':j<i:=by omega
     have hjP:P[j]? =some (P[j]'(by omega)):=bB (by omega)
     have huv:u=P[j]'(by omega):=by
      have:=r.pre j _ hjP
      rw[hu]at this
      exact Option.some.inj this
     rw[← huv]at hjP
     obtain⟨b1,b2,rr,ar',b3,b4,b5⟩:=h.row j u hj' hjP
     exact⟨by rw[List.getElem?_append_left (by omega)];exact b1,by rw[List.getElem?_append_left (by omega)];exact b2,rr,ar',by rw[List.getElem?_append_left (by omega)];exact b3,b4,b5.mono r.pre⟩
structure RecG (a:Arena) (ps:List Pair) (st:Place) (P:List Place) (g:Parity):Prop where
 game:RecS a ps st P P.length g.Arena.Owner g.Arena.Next g.Prio
 le:P.length<=256
theorem RecG.ok {a:Arena}{ps:List Pair}{st:Place}{P:List Place}{g:Parity}(h:RecG a ps st P g) (ha:cZ a=true) (hO:∀o∈a.Owner,inR 2 o=true) (hN:∀(i:Nat) row,a.Next[i]? =some row->1<=row.length/\row.length<=16) (hk:ps.length<=4):cn g=true:=by
 have hr:=h.game
 have h0:=(gs.1 hr.zero).1
 have h1:=hr.ol
 have h2:=hr.nl
 have h3:=hr.ql
 have hle:=h.le
 have hv:∀j:Nat,j<P.length->∃v,P[j]? =some v:=λj hj=>⟨_,bB hj⟩
 refine sm (by omega) (by omega) (by omega) (by omega) (λrow hrow=>?_) (λo ho=>?_) λx hx=>?_
 · obtain⟨j,hj⟩:=List.getElem?_of_mem hrow
   have hlt:=(gs.1 hj).1
   obtain⟨v,hjv⟩:=hv j (by omega)
   obtain⟨_,_,r,ar,b3,b4,b5⟩:=hr.row j v (by omega) hjv
   rw[hj]at b3
   cases b3
   have v0:=(i8 b4).1
   rw[cD v0]at b4
   obtain⟨l1,l2⟩:=hN _ _ b4
   have hl:=b5.len
   refine⟨by omega,by omega,fl.2 ⟨λy hy=>?_,b5.asc⟩⟩
   obtain⟨y0,u,_,hu⟩:=b5.to y hy
   have:=(gs.1 hu).1
   omega
 · obtain⟨j,hj⟩:=List.getElem?_of_mem ho
   have hlt:=(gs.1 hj).1
   obtain⟨v,hjv⟩:=hv j (by omega)
   obtain⟨b1,_⟩:=hr.row j v (by omega) hjv
   rw[hj]at b1
   have v0:=(i8 b1.symm).1
   rw[cD v0]at b1
   exact hO o (it b1.symm)
 · obtain⟨j,hj⟩:=List.getElem?_of_mem hx
   have hlt:=(gs.1 hj).1
   obtain⟨v,hjv⟩:=hv j (by omega)
   obtain⟨_,b2,_⟩:=hr.row j v (by omega) hjv
   rw[hj]at b2
   cases b2
   exact sE ps v.At (by have:=(hr.inn v (it hjv)).rl;omega)
def firstR (k:Nat):List Int:=(List.range k).map Int.ofNat
end Go.Proofs.Ytpcjbkgbnoocaaa
set_option linter.unusedVariables false
set_option linter.unusedSimpArgs false
namespace Go.Proofs.Ytpcjbkgbnoocaaa
open Go Go.Wk Go.Proofs
theorem rX (row:List Int) (v:Int):iL row v=some (decide (v∈row)):=by
 unfold iL
 rw[cU (f:=gV row v) (r:=true) (xs:=row) (λx=> !(x==v)) rfl (λi x hx=>by
  unfold gV
  rw[bC,hx,bt]
  cases x==v <;> rfl)]
 by_cases h:v∈row
 · rw[if_neg,decide_eq_true h];rfl
   rw[List.all_eq_true]
   intro hall
   have:=hall v h
   simp at this
 · rw[if_pos,decide_eq_false h];rfl
   rw[List.all_eq_true]
   intro x hx
   simp only[Bool.not_eq_true',beq_eq_false_iff_ne,ne_eq]
   exact λe=>h (e ▸ hx)
theorem uU (p0 p1:List Int):eZ p0 p1=some (decide (p0=p1)):=by
 unfold eZ
 by_cases h:p0.length=p1.length
 · rw[show((p0.length:Int) !=(p1.length:Int))=false from by rw[h];simp,cond_false]
   rw[oX (f:=dv p0 p1) (r:=false) (λx y=>decide (x=y)) h (λi x y hx hy=>by
    unfold dv
    rw[bC,bC,hx,hy,bt,bt]
    by_cases e:x=y
    · subst e;simp
    · have e':(x==y)=false:=by simp[e]
      simp[bne,e',e])]
   rw[kl h]
   cases decide (p0=p1) <;> rfl
 · rw[show((p0.length:Int) !=(p1.length:Int))=true from by simp only[bne_iff_ne,ne_eq];omega,cond_true,decide_eq_false (λe=>h (by rw[e]))]
def mn (P:List Place) (k:Place):Int:=match locR P k with | some i=>(i:Int) | none=> -1
theorem um (P:List Place) (u:Int) (rc:List Int):jC P u rc=some (mn P ⟨u,rc⟩):=by
 unfold jC
 rw[ee (f:=fY P u rc) (λx=>x.At==u&&x.Record==rc) (λi=>(i:Int)) (xs:=P) (λi x hx=>by
  unfold fY
  rw[bC,hx,bt]
  by_cases h1:x.At=u
  · rw[show(x.At==u)=true from by simpa using h1,cond_true,bt,uU]
    by_cases h2:x.Record=rc
    · rw[decide_eq_true h2,show(x.Record==rc)=true from by simpa using h2];rfl
    · rw[decide_eq_false h2,show(x.Record==rc)=false from by simpa using h2];rfl
  · rw[show(x.At==u)=false from by simpa using h1];rfl)]
 unfold mn locR
 cases P.findIdx? (λx=>x.At==u&&x.Record==rc) <;> rfl
section
variable {ps:List Pair}{rc:List Int}(hr:∀x∈rc,0<=x/\x<(ps.length:Int)) (hl:rc.length<=1000)
include hr hl
theorem uA (v:Int):gr ps rc v=some (gq ps rc v):=by
 unfold gr
 obtain⟨s,h1,h2⟩:=bO (f:=dW ps rc v) (λj (s:List Int×List Int)=>s=((rc.take j).filter (dQ ps v),(rc.take j).filter λi=> !dQ ps v i)) rc.length (s:=([],[])) rfl (λj s hj hs=>by
  subst hs
  have hx:rc[j]? =some rc[j]:=bB hj
  generalize rc[j]=x at hx
  obtain⟨x0,x1⟩:=hr x (it hx)
  obtain⟨p,hp,_⟩:=dF (xs:=ps) x0 x1
  have hg:dQ ps v x=decide (v∈p.Give):=by unfold dQ;rw[hp]
  have l1:((rc.take j).filter (dQ ps v)).length<=1000:=Nat.le_trans (List.length_filter_le ..) (by rw[vB];omega)
  have l2:((rc.take j).filter λi=> !dQ ps v i).length<=1000:=Nat.le_trans (List.length_filter_le ..) (by rw[vB];omega)
  unfold dW
  rw[bC,hx,bt,hp,bt,rX,← hg,bt,vG,hx]
  simp only[Option.toList_some,List.filter_append]
  cases hc:dQ ps v x with
  | true=>
   simp only[cond_true,bt]
   rw[app1 (by omega) rfl]
   exact⟨_,rfl,by simp[hc]⟩
  | false=>
   simp only[cond_false,bt]
   rw[app1 (by omega) rfl]
   exact⟨_,rfl,by simp[hc]⟩)
 rw[h1,h2,bt,bD,List.take_length]
 have l1:(rc.filter (dQ ps v)).length<=1000:=Nat.le_trans (List.length_filter_le ..) hl
 have l2:(rc.filter λi=> !dQ ps v i).length<=1000:=Nat.le_trans (List.length_filter_le ..) hl
 dsimp only
 rw[appL (by omega) rfl];rfl
theorem uq (v:Int):gM ps rc v=some (nI ps rc v):=by
 unfold gM
 obtain⟨s,h1,h2⟩:=bO (f:=dU ps rc v) (λj (s:Int×Int)=>s=(eY (askI ps v) rc j,eY (dQ ps v) rc j)) rc.length (s:=(-1,-1)) rfl (λj s hj hs=>by
  subst hs
  have hx:rc[j]? =some rc[j]:=bB hj
  generalize rc[j]=x at hx
  obtain⟨x0,x1⟩:=hr x (it hx)
  obtain⟨p,hp,_⟩:=dF (xs:=ps) x0 x1
  have hg:dQ ps v x=decide (v∈p.Give):=by unfold dQ;rw[hp]
  have ha:askI ps v x=decide (v∈p.Ask):=by unfold askI;rw[hp]
  have e1:eY (askI ps v) rc (j+1)=bif askI ps v x then(j:Int) else eY (askI ps v) rc j:=by
   show(bif (match rc[j]? with | some x=>askI ps v x | none=>false) then(j:Int) else _)=_
   rw[hx]
  have e2:eY (dQ ps v) rc (j+1)=bif dQ ps v x then(j:Int) else eY (dQ ps v) rc j:=by
   show(bif (match rc[j]? with | some x=>dQ ps v x | none=>false) then(j:Int) else _)=_
   rw[hx]
  refine⟨_,?_,rfl⟩
  unfold dU
  simp only[bC,hx,bt,hp,rX,← hg,← ha]
  rw[e1,e2]
  cases askI ps v x <;> cases dQ ps v x <;> rfl)
 rw[h1,h2,bt,bD]
 have a:=kU (askI ps v) rc rc.length
 have g:=kU (dQ ps v) rc rc.length
 unfold nI
 dsimp only
 generalize eY (askI ps v) rc rc.length=x at *
 generalize eY (dQ ps v) rc rc.length=y at *
 rw[wr' (z:=2 * x) (by omega) (by omega),wr' (z:=2 * x+1) (by omega) (by omega),wr' (z:=2 * y) (by omega) (by omega),wr' (z:=2 * y+2) (by omega) (by omega)]
 cases decide (x<0) <;> cases decide (y<0) <;> cases decide (y<x) <;> rfl
end
theorem sT {xs:List Int}(hn:xs.Nodup) (hl:xs.length<=1000):∃S,hZ xs=some S/\Asc S/\S.length=xs.length/\∀z,z∈S↔z∈xs:=by
 unfold hZ
 obtain⟨s,h1,h2,h3,h4⟩:=bO (f:=eG xs) (λj (s:List Int)=>Asc s/\s.length=j/\∀z,z∈s↔z∈xs.take j) xs.length (s:=[]) ⟨List.Pairwise.nil,rfl,λz=>by simp⟩ (λj s hj ⟨a1,a2,a3⟩=>by
  have hx:xs[j]? =some xs[j]:=bB hj
  have hxj:=hx
  generalize hxe:xs[j]=x at hx
  have hnot:x∉s:=λhm=>by
   obtain⟨i,hi⟩:=List.getElem?_of_mem ((a3 x).1 hm)
   have hil:=(gs.1 hi).1
   rw[vB]at hil
   rw[List.getElem?_take,if_pos (by omega),bB (by omega)]at hi
   have:=(List.pairwise_iff_getElem.1 hn) i j (by omega) hj (by omega)
   exact this ((Option.some.inj hi).trans hxe.symm)
  obtain⟨o,w1,w2⟩:=cm (f:=ew xs (j:Int) s) (λq (k:Int)=>∃m:Nat,k=(m:Int)/\m+q=s.length/\∀(i:Nat) y,m<=i->s[i]? =some y->x<y) (λ_=>False) (λk=>∃m:Nat,k=(m:Int)/\m<=s.length/\(∀(i:Nat) y,m<=i->s[i]? =some y->x<y)/\∀(i:Nat) y,i<m->s[i]? =some y->y<x) s.length (λq k ⟨m,e,hm,hi⟩=>by
   subst e
   unfold ew
   by_cases h0:0<m
   · have hy:s[m-1]? =some (s[m-1]'(by omega)):=bB (by omega)
     generalize s[m-1]'(by omega)=y at hy
     have hw:IntKind.i64.wrap ((m:Int)-1)=((m-1:Nat):Int):=by rw[wr' (by omega) (by omega)];omega
     rw[decide_eq_true (show(0:Int)<(m:Int) by omega),cond_true,hw,bC,hy,bt,bC,hx,bt,bt]
     by_cases hlt:x<y
     · rw[decide_eq_true hlt,cond_true]
       refine⟨_,rfl,by omega,m-1,rfl,by omega,λi z hi' hz=>?_⟩
       by_cases e:i=m-1
       · subst e
         rw[hy]at hz
         cases hz
         exact hlt
       · exact hi i z (by omega) hz
     · rw[decide_eq_false hlt,cond_false]
       refine⟨_,rfl,m,rfl,by omega,hi,λi z hi' hz=>?_⟩
       have hyx:y<x:=by
        have:y≠x:=λe=>hnot (e ▸ it hy)
        omega
       by_cases e:i=m-1
       · subst e
         rw[hy]at hz
         cases hz
         exact hyx
       · have:=pA a1 hz hy (by omega)
         omega
   · have hm0:m=0:=by omega
     subst hm0
     rw[decide_eq_false (show ¬(0:Int)<((0:Nat):Int) by omega),cond_false,bt,cond_false]
     exact⟨_,rfl,0,rfl,by omega,hi,λi z hi' _=>absurd hi' (Nat.not_lt_zero i)⟩) (2 ^ 64) 0 (s.length:Int) (by omega) ⟨s.length,rfl,by omega,λi y hi hy=>by
     have:=(gs.1 hy).1
     omega⟩ (by omega)
  match o,w2 with
  | .inr k,⟨m,e,m1,m2,m3⟩=>
   subst e
   unfold eG
   have s1:subS s 0 (m:Int)=some (s.take m):=by
    unfold subS
    rw[if_pos ⟨by omega,by omega,by omega⟩]
    simp
   have s2:subS s (m:Int) (s.length:Int)=some (s.drop m):=by
    unfold subS
    rw[if_pos ⟨by omega,by omega,by omega⟩]
    simp
   have t1:(s.take m).length<=1000:=by rw[vB];omega
   have t2:(s.drop m).length<=1000:=by rw[List.length_drop];omega
   rw[w1,bt,bD,s1,bt,appL (by simp;omega) rfl,bt,bC,hx,bt,List.nil_append,app1 (by omega) rfl,bt,s2,bt,appL (by rw[vx];simp only[vA,vC];omega) rfl,bt]
   have hcut:(s.take m++[x])++s.drop m=ins x s:=by
    rw[List.append_assoc]
    exact rZ a1 hnot m1 m3 (λz hz=>m2 m z (Nat.le_refl _) hz)
   refine⟨_,rfl,?_,?_,λz=>?_⟩
   · rw[hcut];exact nt a1
   · rw[hcut,qS hnot a1,a2]
   · rw[hcut,nA hnot,a3,vG,hx]
     simp only[Option.toList_some,vF,vy]
     constructor
     · rintro(h | h)
       · exact .inr h
       · exact .inl h
     · rintro(h | h)
       · exact .inr h
       · exact .inl h)
 rw[h1,bt,bD]
 exact⟨s,rfl,h2,h3,λz=>by rw[h4,List.take_length]⟩
theorem oa {P:List Place}{k:Place}:(mn P k<0->addR P k=P++[k]/\atR P k=(P.length:Int))/\(¬mn P k<0->addR P k=P/\atR P k=mn P k):=by
 unfold mn addR atR
 cases locR P k with
 | none=>exact⟨λ_=>⟨rfl,rfl⟩,λh=>absurd (by show(-1:Int)<0;omega) h⟩
 | some i=>exact⟨λh=>absurd h (by show ¬((i:Int)<0);omega),λ_=>⟨rfl,rfl⟩⟩
theorem so (ky:Nat->Place) (K:List Place):∀{i j:Nat},i<=j->(da ky K i).1.length<=(da ky K j).1.length:=by
 intro i j h
 induction h with
 | refl=>exact Nat.le_refl _
 | step h ih=>
  refine Nat.le_trans ih ?_
  show _<=(addR _ _).length
  exact(qD _ _).1
end Go.Proofs.Ytpcjbkgbnoocaaa
set_option linter.unusedVariables false
set_option linter.unusedSimpArgs false
namespace Go.Proofs.Ytpcjbkgbnoocaaa
open Go Go.Wk Go.Proofs
theorem conR (l:List Int) (v:Int):bI l v=some (decide (v∈l)):=by
 rw[cX]
 congr 1
 rw[vD]
 simp
theorem tD (ps:List Pair) (rc:List Int) (v:Int):jY ps rc v=gr ps rc v:=by
 have h:ij ps rc v=dW ps rc v:=by
  funext j s
  unfold ij dW
  cases idx rc j with
  | none=>rfl
  | some x=>
   simp only[bt]
   cases idx ps x with
   | none=>rfl
   | some p=>simp only[bt,rX,conR]
 unfold jY gr
 rw[h]
theorem tU (ps:List Pair) (rc:List Int) (v:Int):j0 ps rc v=gM ps rc v:=by
 have h:ig ps rc v=dU ps rc v:=by
  funext j s
  unfold ig dU
  cases idx rc j with
  | none=>rfl
  | some x=>
   simp only[bt]
   cases idx ps x with
   | none=>rfl
   | some p=>simp only[bt,rX,conR]
 unfold j0 gM
 rw[h]
theorem qX (P:List Place) (u:Int) (rc:List Int):mW P u rc=some (mn P ⟨u,rc⟩):=by
 unfold mW
 rw[c9 (λx=>x.At==u&&x.Record==rc) (λx _=>by
  unfold la
  by_cases h1:x.At=u
  · rw[show(x.At==u)=true from by simpa using h1,cond_true,dz]
    by_cases h2:x.Record=rc
    · rw[decide_eq_true h2,show(x.Record==rc)=true from by simpa using h2];rfl
    · rw[decide_eq_false h2,show(x.Record==rc)=false from by simpa using h2];rfl
  · rw[show(x.At==u)=false from by simpa using h1];rfl)]
 rfl
def noRec:Parity×List Place×Bool:=(⟨⟨[],[]⟩,[]⟩,[],false)
section
variable {a:Arena}{v:Place}{ar rc:List Int}{P:List Place}(har:idx a.Next v.At=some ar) (hal:ar.length<=16) (hrl:rc.length<=4)
include har hal hrl
theorem uC (hP:P.length<=256):∃o,bP (eg a v rc) (2 ^ 64) (P,[],0)=some o/\(match o with
 | .inl r=>r=noRec/\256<(da (kyR ar rc) P ar.length).1.length
 | .inr s=>s.1=(da (kyR ar rc) P ar.length).1/\s.2.1=(da (kyR ar rc) P ar.length).2/\(da (kyR ar rc) P ar.length).1.length<=256):=by
 obtain⟨o,w1,w2⟩:=cm (f:=eg a v rc) (λj (s:List Place×List Int×Int)=>s=((da (kyR ar rc) P j).1,(da (kyR ar rc) P j).2,(j:Int))/\j<=ar.length/\(da (kyR ar rc) P j).1.length<=256) (λr=>r=noRec/\256<(da (kyR ar rc) P ar.length).1.length)
  (λs=>s.1=(da (kyR ar rc) P ar.length).1/\s.2.1=(da (kyR ar rc) P ar.length).2/\(da (kyR ar rc) P ar.length).1.length<=256) ar.length (λj s ⟨e,hj,hle⟩=>by
  subst e
  have rk:=j9 (kyR ar rc) P j
  have hrl2:=rk.rl
  unfold eg
  dsimp only
  rw[har,bt]
  by_cases hlt:j<ar.length
  · have hx:ar[j]? =some ar[j]:=bB hlt
    have hky:kyR ar rc j=⟨ar[j],rc⟩:=by unfold kyR;rw[List.getD_eq_getElem?_getD,hx];rfl
    generalize ar[j]=u at hx hky
    obtain⟨q1,q2⟩:=oa (P:=(da (kyR ar rc) P j).1) (k:=kyR ar rc j)
    have hS:da (kyR ar rc) P (j+1)=(addR (da (kyR ar rc) P j).1 (kyR ar rc j),(da (kyR ar rc) P j).2++[atR (da (kyR ar rc) P j).1 (kyR ar rc j)]):=rfl
    have hm:=so (kyR ar rc) P (show j+1<=ar.length by omega)
    rw[decide_eq_true (show(j:Int)<(ar.length:Int) by omega),cond_true,bt,bC,hx,bt,um,← hky,bt]
    by_cases hc:mn (da (kyR ar rc) P j).1 (kyR ar rc j)<0
    · obtain⟨e1,e2⟩:=q1 hc
      rw[hS,e1]at hm
      simp only[vx,vA,vC]at hm
      by_cases hbig:(256:Int)<=((da (kyR ar rc) P j).1.length:Int)
      · rw[decide_eq_true hc,cond_true,decide_eq_true hbig,cond_true]
        exact⟨_,rfl,rfl,by omega⟩
      · rw[decide_eq_true hc,cond_true,decide_eq_false hbig,cond_false,appL (by simp;omega) rfl,bt,List.nil_append,app1 (by omega) rfl,bt,bt,bD]
        dsimp only
        rw[app1 (by omega) rfl,bt,wr' (by omega) (by omega)]
        refine⟨_,rfl,by omega,?_,by omega,?_⟩
        · rw[hS,e1,e2,← hky];rfl
        · rw[hS,e1,vx];simp only[vA,vC];omega
    · obtain⟨e1,e2⟩:=q2 hc
      rw[decide_eq_false hc,cond_false,bt,bD]
      dsimp only
      rw[app1 (by omega) rfl,bt,wr' (by omega) (by omega)]
      refine⟨_,rfl,by omega,?_,by omega,?_⟩
      · rw[hS,e1,e2];rfl
      · rw[hS,e1];exact hle
  · have:j=ar.length:=by omega
    subst this
    rw[decide_eq_false (show ¬((ar.length:Nat):Int)<(ar.length:Int) by omega),cond_false]
    exact⟨_,rfl,rfl,rfl,hle⟩) (2 ^ 64) 0 (P,[],0) (by omega) ⟨rfl,Nat.zero_le _,hP⟩ (by omega)
 exact⟨o,w1,by
  match o,w2 with
  | .inl r,h=>exact h
  | .inr s,h=>exact h⟩
omit har in
theorem up (hP:P.length<=1000):cntM (bR rc ar) ar.length 0 (P,[])=some (.inr (da (kyR ar rc) P ar.length)):=by
 obtain⟨s,h1,h2⟩:=bO (f:=bR rc ar) (λj s=>s=da (kyR ar rc) P j) ar.length (s:=(P,[])) rfl (λj s hj e=>by
  subst e
  have rk:=j9 (kyR ar rc) P j
  have hrl2:=rk.rl
  have hle:=rk.le
  have hx:ar[j]? =some ar[j]:=bB hj
  have hky:kyR ar rc j=⟨ar[j],rc⟩:=by unfold kyR;rw[List.getD_eq_getElem?_getD,hx];rfl
  generalize ar[j]=u at hx hky
  obtain⟨q1,q2⟩:=oa (P:=(da (kyR ar rc) P j).1) (k:=kyR ar rc j)
  refine⟨_,?_,rfl⟩
  unfold bR
  rw[bC,hx,bt,qX,← hky,bt]
  show _=some (Sum.inr (Sum.inr (addR (da (kyR ar rc) P j).1 (kyR ar rc j),(da (kyR ar rc) P j).2++[atR (da (kyR ar rc) P j).1 (kyR ar rc j)])))
  by_cases hc:mn (da (kyR ar rc) P j).1 (kyR ar rc j)<0
  · obtain⟨e1,e2⟩:=q1 hc
    rw[decide_eq_true hc,cond_true,appL (by simp;omega) rfl,bt,List.nil_append,app1 (by omega) rfl,bt,bt]
    dsimp only
    rw[app1 (by omega) rfl,bt,e1,e2,← hky]
  · obtain⟨e1,e2⟩:=q2 hc
    rw[decide_eq_false hc,cond_false,bt]
    dsimp only
    rw[app1 (by omega) rfl,bt,e1,e2])
 rw[h1,h2]
end
end Go.Proofs.Ytpcjbkgbnoocaaa
set_option linter.unusedVariables false
set_option linter.unusedSimpArgs false
namespace Go.Proofs.Ytpcjbkgbnoocaaa
open Go Go.Wk Go.Proofs
theorem pc {a:Arena}(ha:cZ a=true):cn ⟨a,hV a.Owner.length 0⟩=true:=by
 unfold cn
 dsimp only
 rw[ha,List.length_replicate,beq_self_eq_true,Bool.true_and,Bool.true_and,List.all_eq_true]
 intro x hx
 rw[(List.mem_replicate.1 hx).2];rfl
theorem oH {a:Arena}(ha:cZ a=true):1<=a.Owner.length/\a.Owner.length<=256/\(∀(i:Nat) row,a.Next[i]? =some row->1<=row.length/\row.length<=16)/\(∀o∈a.Owner,inR 2 o=true) /\
 ∀v:Int,0<=v->v<(a.Owner.length:Int)->∃ar o,idx a.Next v=some ar/\idx a.Owner v=some o/\1<=ar.length/\ar.length<=16/\Asc ar/\∀u∈ar,0<=u/\u<(a.Owner.length:Int):=by
 have hp:=pc ha
 obtain⟨h1,h2,h3,_,h5⟩:=dq hp
 dsimp only at h1 h2 h3 h5
 refine⟨h1,h2,λi row hr=>⟨(h5 i row hr).1,(h5 i row hr).2.1⟩,(nZ hp).1,λv v0 v1=>?_⟩
 obtain⟨ar,har,_⟩:=dF (xs:=a.Next) v0 (by omega)
 obtain⟨o,ho,_⟩:=dF (xs:=a.Owner) v0 v1
 have har':=har
 rw[cD v0]at har'
 obtain⟨r1,r2,r3⟩:=h5 _ ar har'
 obtain⟨r4,r5⟩:=fl.1 r3
 exact⟨ar,o,har,ho,r1,r2,r5,r4⟩
section
variable {a:Arena}{ps:List Pair}{st:Place}(ha:cZ a=true) (hk:ps.length<=4)
include ha hk
theorem td (hv:VOk a.Owner.length ps.length st):(bP (dt a ps) (2 ^ 64) ([st],0,[],[],[])=some (.inl noRec)/\bP (bN a ps) (2 ^ 64) ([st],0,[],[],[])=some (.inl noRec)) \/
 ∃s:List Place×Int×List Int×List (List Int)×List Int,bP (dt a ps) (2 ^ 64) ([st],0,[],[],[])=some (.inr s)/\bP (bN a ps) (2 ^ 64) ([st],0,[],[],[])=some (.inr s)/\RecG a ps st s.1 ⟨⟨s.2.2.1,s.2.2.2.1⟩,s.2.2.2.2⟩:=by
 obtain⟨_,_,_,_,hA⟩:=oH ha
 obtain⟨o,t,w1,w2,w3⟩:=lw (f:=dt a ps) (g:=bN a ps) (λs t=>s=t/\∃i:Nat,s.2.1=(i:Int)/\RecS a ps st s.1 i s.2.2.1 s.2.2.2.1 s.2.2.2.2/\s.1.length<=256) (λs=>300-s.2.1.toNat) (λr r'=>r=noRec/\r'=noRec)
  (λs t=>s=t/\RecG a ps st s.1 ⟨⟨s.2.2.1,s.2.2.2.1⟩,s.2.2.2.2⟩) (λs t ⟨e,i,hi,hR,hl⟩=>by
  subst e
  obtain⟨P,z,O,N,Q⟩:=s
  dsimp only at hi hR hl
  subst hi
  unfold dt bN
  dsimp only
  by_cases hlt:i<P.length
  · have hvi:P[i]? =some P[i]:=bB hlt
    generalize P[i]=v at hvi
    have hvo:=hR.inn v (it hvi)
    obtain⟨ar,ow,har,how,l1,l2,hasc,hin⟩:=hA v.At hvo.a0 hvo.a1
    have hrc:=hvo.rl
    have hn17:=uA (ps:=ps) (rc:=v.Record) hvo.rin (by omega) v.At
    have hp17:=uq (ps:=ps) (rc:=v.Record) hvo.rin (by omega) v.At
    have hnx:=p9 ps v.At hvo.rl hvo.rin
    obtain⟨o1,u1,u2⟩:=uC (a:=a) (v:=v) (ar:=ar) (rc:=gq ps v.Record v.At) (P:=P) har l2 (by omega) hl
    have hi:=up (ar:=ar) (rc:=gq ps v.Record v.At) (P:=P) l2 (by omega) (by omega)
    have hnd:=rq (ar:=ar) (rc:=gq ps v.Record v.At) (P:=P) (gw hasc)
    have rk:=j9 (kyR ar (gq ps v.Record v.At)) P ar.length
    have hrl:=rk.rl
    obtain⟨S,t1,t2,t3,t4⟩:=sT hnd (by omega)
    have hsort:cA (da (kyR ar (gq ps v.Record v.At)) P ar.length).2=some S:=by
     unfold cA
     rw[if_pos ⟨by omega,by omega⟩]
     exact congrArg some (pC (tq hnd) t2 λz=>by rw[List.mem_mergeSort,t4])
    have hstep:=hR.step hvi har hin how t2 (by rw[t3,hrl]) t4
    have e1:=hR.ol
    have e2:=hR.nl
    have e3:=hR.ql
    have hr1:kh v ps=some (gq ps v.Record v.At):=by
     unfold kh
     rw[tD,hn17];rfl
    have hr2:kr v ps=some (nI ps v.Record v.At):=by
     unfold kr
     rw[tU,hp17];rfl
    rw[decide_eq_true (show(i:Int)<(P.length:Int) by omega),cond_true,cond_true,bC,hvi,bt,bt,hn17,bt,u1,bt,hr1,bt,har,bt,hi,bt,bD]
    match o1,u2 with
    | .inl r,⟨r1,r2⟩=>
     subst r1
     rw[decide_eq_true (show(256:Int)<((da (kyR ar (gq ps v.Record v.At)) P ar.length).1.length:Int) by omega),cond_true]
     exact⟨_,_,rfl,rfl,rfl,rfl⟩
    | .inr s,⟨r1,r2,r3⟩=>
     rw[bD,r1,r2,t1,how,bt,decide_eq_false (show ¬(256:Int)<((da (kyR ar (gq ps v.Record v.At)) P ar.length).1.length:Int) by omega),cond_false,hsort,hr2]
     simp only[bt]
     unfold mh
     dsimp only
     rw[app1 (xs:=O) (by omega) rfl,app1 (xs:=N) (by omega) rfl,hp17]
     simp only[bt]
     rw[app1 (xs:=Q) (by omega) rfl,wr' (by omega) (by omega)]
     refine⟨_,_,rfl,rfl,⟨rfl,i+1,by dsimp only;omega,hstep,r3⟩,?_⟩
     dsimp only
     omega
  · rw[decide_eq_false (show ¬(i:Int)<(P.length:Int) by omega),cond_false,cond_false]
    have hil:=hR.il
    have:i=P.length:=by omega
    subst this
    exact⟨_,_,rfl,rfl,rfl,hR,hl⟩) (2 ^ 64) (2 ^ 64) ([st],0,[],[],[]) ([st],0,[],[],[]) (by dsimp only;omega) (by dsimp only;omega) ⟨rfl,0,rfl,RecS.init hv,by simp⟩
 match o,t,w3 with
 | .inl r,.inl r',w3=>
  rw[w3.1]at w1
  rw[w3.2]at w2
  exact .inl ⟨w1,w2⟩
 | .inr s,.inr t,⟨e,hG⟩=>
  subst e
  exact .inr ⟨s,w1,w2,hG⟩
end
theorem tY (k:Nat):cntM di k 0 []=some (.inr (firstR k))\/1000<k:=by
 by_cases hk:1000<k
 · exact .inr hk
 · obtain⟨s,h1,h2⟩:=bO (f:=di) (λj s=>s=firstR j) k (s:=[]) rfl (λj s hj e=>by
    subst e
    unfold di
    rw[app1 (by unfold firstR;rw[vI,List.length_range];omega) rfl]
    exact⟨_,rfl,by unfold firstR;rw[List.range_succ,List.map_append];rfl⟩)
   exact .inl (by rw[h1,h2])
theorem od {a:Arena}{ps:List Pair}{st:Int}(ha:cZ a=true) (hp:pairsOk ps (a.Owner.length:Int)=true) (hb:∀x∈ps,x.Ask.length<=1000000000/\x.Give.length<=1000000000) (h0:0<=st) (h1:st<(a.Owner.length:Int)):
 (dp a ps st=some noRec/\gH a ps st=some noRec)\/∃P g,RecG a ps ⟨st,firstR ps.length⟩ P g/\cn g=true/\dp a ps st=some (g,P,true)/\gH a ps st=some (g,P,true):=by
 obtain⟨n1,n2,n3,n4,_⟩:=oH ha
 have hk:ps.length<=4:=by
  unfold pairsOk at hp
  rw[vv,decide_eq_true_eq]at hp
  omega
 have hf:cntM di ps.length 0 []=some (.inr (firstR ps.length)):=(tY ps.length).resolve_right (by omega)
 have hf':cntM lD ps.length 0 []=some (.inr (firstR ps.length)):=hf
 have hv:VOk a.Owner.length ps.length ⟨st,firstR ps.length⟩:=⟨h0,h1,by unfold firstR;rw[vI,List.length_range],λx hx=>by
  unfold firstR at hx
  obtain⟨i,hi,e⟩:=List.mem_map.1 hx
  have:=List.mem_range.1 hi
  have e:(i:Int)=x:=e
  omega⟩
 unfold dp gH cE
 rw[ke,ha,bt,vw,cond_false,lE (by omega) (by omega) hb,hp,bt,bt,vw,cond_false,cT,wr' (by omega) (by omega),decide_eq_true h0,decide_eq_true (show st<=(a.Owner.length:Int)-1 by omega),Bool.and_self,bt,bt,vw,cond_false,hf,hf',bt,bt,bD,bD]
 rcases td ha hk hv with ⟨w1,w2⟩ | ⟨s,w1,w2,hG⟩
 · left
   rw[w1,w2]
   exact⟨rfl,rfl⟩
 · right
   rw[w1,w2]
   exact⟨s.1,_,hG,hG.ok ha n4 n3 hk,rfl,rfl⟩
end Go.Proofs.Ytpcjbkgbnoocaaa
set_option linter.unusedVariables false
set_option linter.unusedSimpArgs false
namespace Go.Proofs.Ytpcjbkgbnoocaaa
open Go Go.Wk Go.Proofs
theorem mI {zs:List Int}{j:Nat}(h:j<zs.length):zs.toArray[j]! =zs[j]:=by
 rw[getElem!_pos _ j (by simpa using h)]
 simp
theorem mw {zs:List Int}(h:zs.Pairwise (·<=·)):∀m:Nat,m<=zs.length->Asc (Lib.compactUpTo zs.toArray m)/\∀z,z∈Lib.compactUpTo zs.toArray m↔∃j:Nat,j<m/\zs[j]? =some z
 | 0,_=>⟨by simp[Lib.compactUpTo,Asc],λz=>by simp[Lib.compactUpTo]⟩
 | m+1,hm=>by
  obtain⟨a1,a2⟩:=mw h m (by omega)
  have hmono:∀(i j:Nat) (hi:i<zs.length) (hj:j<zs.length),i<=j->zs[i]<=zs[j]:=λi j hi hj hij=>by
   rcases Nat.lt_or_ge i j with c | c
   · exact(List.pairwise_iff_getElem.1 h) i j hi hj c
   · have:i=j:=by omega
     subst this
     exact Int.le_refl _
  rw[Lib.compactUpTo_succ,mI (show m<zs.length by omega)]
  have e1:zs[m]? =some zs[m]:=bB (by omega)
  cases hk:Lib.keeps zs.toArray m with
  | true=>
   rw[if_pos rfl]
   refine⟨List.pairwise_append.2 ⟨a1,List.pairwise_singleton ..,λx hx y hy=>?_⟩,λz=>?_⟩
   · rw[vy.1 hy]
     obtain⟨j,j1,j2⟩:=(a2 x).1 hx
     rw[bB (show j<zs.length by omega)]at j2
     have hx:=Option.some.inj j2
     have hne:zs[m]≠zs[m-1]'(by omega):=λe=>by
      unfold Lib.keeps at hk
      rw[decide_eq_true_eq,mI (show m<zs.length by omega),mI (show m-1<zs.length by omega)]at hk
      rcases hk with hk | hk
      · omega
      · exact hk e
     have l1:=hmono j (m-1) (by omega) (by omega) (by omega)
     have l2:=hmono (m-1) m (by omega) (by omega) (by omega)
     omega
   · rw[vF,vy,a2]
     constructor
     · rintro(⟨j,j1,j2⟩ | rfl)
       · exact⟨j,by omega,j2⟩
       · exact⟨m,by omega,e1⟩
     · rintro⟨j,j1,j2⟩
       by_cases e:j=m
       · subst e
         rw[e1]at j2
         exact .inr (Option.some.inj j2).symm
       · exact .inl ⟨j,by omega,j2⟩
  | false=>
   rw[if_neg (by simp),List.append_nil]
   refine⟨a1,λz=>?_⟩
   rw[a2]
   constructor
   · rintro⟨j,j1,j2⟩
     exact⟨j,by omega,j2⟩
   · rintro⟨j,j1,j2⟩
     by_cases e:j=m
     · subst e
       have hk':¬(j=0\/zs.toArray[j]!≠zs.toArray[j-1]!):=λhh=>by
        unfold Lib.keeps at hk
        rw[decide_eq_true hh]at hk
        cases hk
       rw[mI (show j<zs.length by omega),mI (show j-1<zs.length by omega)]at hk'
       have h0:j≠0:=λe=>hk' (.inl e)
       have h1:zs[j]=zs[j-1]'(by omega):=Classical.byContradiction λe=>hk' (.inr e)
       refine⟨j-1,by omega,?_⟩
       rw[bB (show j-1<zs.length by omega),← h1,← e1,j2]
     · exact⟨j,by omega,j2⟩
theorem p5 {zs:List Int}(h:zs.Pairwise (·<=·)):Asc (Lib.compact zs)/\∀z,z∈Lib.compact zs↔z∈zs:=by
 obtain⟨a,b⟩:=mw h zs.length (Nat.le_refl _)
 refine⟨a,λz=>?_⟩
 unfold Lib.compact
 rw[b]
 constructor
 · rintro⟨j,_,h⟩;exact it h
 · intro hz
   obtain⟨j,hj⟩:=List.getElem?_of_mem hz
   exact⟨j,(gs.1 hj).1,hj⟩
end Go.Proofs.Ytpcjbkgbnoocaaa
set_option linter.unusedVariables false
set_option linter.unusedSimpArgs false
namespace Go.Proofs.Ytpcjbkgbnoocaaa
open Go Go.Wk Go.Proofs
theorem kN {p:Sig}(hs:sigOk p=true){x o:Int}(x0:0<=x) (x1:x<pw p.In) (o0:0<=o) (o1:o<pw p.Out):gv p x o=some (o * pw p.In+x):=by
 have pI:=jp p.In
 have pO:=jp p.Out
 obtain⟨hi,ho⟩:=cM hs
 have hmul:0<=o * pw p.In:=Int.mul_nonneg o0 (by omega)
 have hmul2:o * pw p.In<=4 * 4:=Int.mul_le_mul (by omega) (by omega) (by omega) (by omega)
 unfold gv
 simp only[dj,hs,bt,vw,cond_false,ck hi,ck ho]
 rw[wr' (z:=pw p.In-1) (by omega) (by omega),wr' (z:=pw p.Out-1) (by omega) (by omega),wr' (z:=o * pw p.In) (by omega) (by omega),wr' (by omega) (by omega)]
 simp only[cT,rD,bt,ej.2 ⟨x0,x1⟩,ej.2 ⟨o0,o1⟩,vw,cond_false]
end Go.Proofs.Ytpcjbkgbnoocaaa
set_option linter.unusedVariables false
set_option linter.unusedSimpArgs false
namespace Go.Proofs.Ytpcjbkgbnoocaaa
open Go Go.Wk Go.Proofs
theorem ju {p:Sig}(hs:sigOk p=true):dV p=some (pw p.In):=by
 obtain⟨hi,_⟩:=cM hs
 unfold dV
 rw[(fi hi).1,bt,(fi hi).2]
end Go.Proofs.Ytpcjbkgbnoocaaa
set_option linter.unusedVariables false
set_option linter.unusedSimpArgs false
namespace Go.Proofs.Ytpcjbkgbnoocaaa
open Go Go.Wk Go.Proofs
theorem lV:∀{xs ys:List Int},xs.Nodup->(∀x∈xs,x∈ys)->xs.length<=ys.length
 | [],_,_,_=>Nat.zero_le _
 | x::xs,ys,hn,h=>by
  obtain⟨h1,h2⟩:=List.nodup_cons.1 hn
  have hx:=h x (List.mem_cons_self ..)
  have:=lV (ys:=ys.erase x) h2 λz hz=>(List.mem_erase_of_ne (λe=>h1 (by rw[← e];exact hz))).2 (h z (List.mem_cons_of_mem _ hz))
  have h3:=List.length_pos_of_mem hx
  rw[List.length_erase_of_mem hx]at this
  simp only[vA]
  omega
theorem uu {m q q' i i':Nat}(hi:i<m) (hi':i'<m) (h:q * m+i=q' * m+i'):q=q'/\i=i':=by
 have hlt:∀{a b:Nat},a<b->a * m+m<=b * m:=λ{a b} h=>by
  have:=Nat.mul_le_mul_right m (show a+1<=b by omega)
  rwa [Nat.add_mul,Nat.one_mul]at this
 by_cases h1:q<q'
 · have:=hlt h1;omega
 · by_cases h2:q'<q
   · have:=hlt h2;omega
   · have:q=q':=by omega
     subst this
     exact⟨rfl,by omega⟩
theorem oK {n m q i:Nat}(hq:q<n) (hi:i<m):q * m+i<n * m:=by
 have:=Nat.mul_le_mul_right m (show q+1<=n by omega)
 rw[Nat.add_mul,Nat.one_mul]at this
 omega
def SuccR (d:Det) (m k q i:Nat) (r:List Int):Prop:=Asc r/\∀z,z∈r↔∃o:Nat,o<k/\z=tab d.Next q ((o * m+i:Nat):Int)
theorem SuccR.uniq {d:Det}{m k q i:Nat}{r r':List Int}(h:SuccR d m k q i r) (h':SuccR d m k q i r'):r=r':=pC h.1 h'.1 λz=>by rw[h.2,h'.2]
def rowQ (n m q:Nat):List Int:=(List.range m).map λi=>((n+q * m+i:Nat):Int)
structure ConA (d:Det) (n m k:Nat) (A:Arena):Prop where
 ol:A.Owner=hV n 1++hV (n * m) 0
 nl:A.Next.length=n+n * m
 r1:∀q:Nat,q<n->A.Next[q]? =some (rowQ n m q)
 r0:∀q i:Nat,q<n->i<m->∃r,A.Next[n+(q * m+i)]? =some r/\SuccR d m k q i r
section
variable {d:Det}{n m k:Nat}(hn:n<=48) (hn1:1<=n) (hm1:1<=m) (hm:m<=4) (hk1:1<=k) (hk:k<=4) (hd:d.Next.length=n) (hD:∀row∈d.Next,RowIn (n:Int) ((m * k:Nat):Int) row)
include hn hn1 hm1 hm hk1 hk hd hD
omit hn hn1 hk1 hk in
theorem mA {q i o:Nat}(hq:q<n) (hi:i<m) (ho:o<k):∃row,idx d.Next (q:Int)=some row/\idx row ((o * m+i:Nat):Int)=some (tab d.Next q ((o * m+i:Nat):Int))/\0<=tab d.Next q ((o * m+i:Nat):Int)/\tab d.Next q ((o * m+i:Nat):Int)<(n:Int):=by
 have h1:=oK (n:=k) ho hi
 have h2:k * m=m * k:=Nat.mul_comm _ _
 exact oY hD (by omega) (by omega) (by omega) (by omega)
theorem uN {A:Arena}(h:ConA d n m k A):cZ A=true:=by
 have hnm:n * m<=48 * 4:=Nat.mul_le_mul hn hm
 have hol:A.Owner.length=n+n * m:=by rw[h.ol];simp
 have hnl:=h.nl
 unfold cZ
 simp only[vv,decide_eq_true_eq,beq_iff_eq]
 refine⟨⟨⟨by omega,by omega⟩,by omega⟩,?_⟩
 rw[List.all_eq_true]
 rintro⟨row,j⟩ hx
 have hx:=List.mem_zipIdx_iff_getElem?.1 hx
 dsimp only at hx ⊢
 have hlt:=(gs.1 hx).1
 unfold vertOk
 by_cases hj:j<n
 · have ho:A.Owner[j]? =some 1:=by
    rw[h.ol,List.getElem?_append_left (by simpa using hj),vt,if_pos hj]
   rw[h.r1 j hj]at hx
   cases hx
   have hl:(rowQ n m j).length=m:=by unfold rowQ;rw[vI,List.length_range]
   have hs:cw (A.Owner.length:Int) (rowQ n m j)=true:=by
    refine fl.2 ⟨λx hx=>?_,?_⟩
    · unfold rowQ at hx
      obtain⟨i,hi,e⟩:=List.mem_map.1 hx
      have:=List.mem_range.1 hi
      have:=oK (n:=n) (m:=m) hj this
      omega
    · unfold rowQ
      refine List.pairwise_map.2 (List.Pairwise.imp (λ{a b} hab=>?_) List.pairwise_lt_range)
      omega
   rw[ho,hs,hl]
   simp only[Bool.and_true,vv,decide_eq_true_eq]
   exact⟨⟨by decide,by omega⟩,by omega⟩
 · have hjm:j-n<n * m:=by omega
   have hq:(j-n) / m<n:=(Nat.div_lt_iff_lt_mul (by omega)).2 hjm
   have hi:(j-n) % m<m:=Nat.mod_lt _ (by omega)
   have e:(j-n) / m * m+(j-n) % m=j-n:=by rw[Nat.mul_comm];exact Nat.div_add_mod _ _
   obtain⟨r,r1,r2,r3⟩:=h.r0 _ _ hq hi
   rw[e,show n+(j-n)=j by omega,hx]at r1
   cases r1
   have ho:A.Owner[j]? =some 0:=by
    rw[h.ol,List.getElem?_append_right (by simp;omega),List.length_replicate,vt,if_pos hjm]
   have hin:∀x∈row,0<=x/\x<(n:Int):=λx hx=>by
    obtain⟨o,ho,e⟩:=(r3 x).1 hx
    obtain⟨_,_,_,a,b⟩:=mA hm1 hm hd hD hq hi ho
    rw[e];exact⟨a,b⟩
   have hs:cw (A.Owner.length:Int) row=true:=fl.2 ⟨λx hx=>by have:=hin x hx;omega,r2⟩
   have hne:1<=row.length:=List.length_pos_of_mem ((r3 _).2 ⟨0,by omega,rfl⟩)
   have hle:row.length<=k:=by
    -- each is one of k
    have h3:=lV (ys:=(List.range k).map λo=>tab d.Next ((j-n) / m:Nat) ((o * m+(j-n) % m:Nat):Int)) (gw r2) λz hz=>by
     obtain⟨o,ho,e⟩:=(r3 z).1 hz
     exact List.mem_map.2 ⟨o,List.mem_range.2 ho,e.symm⟩
    rwa [vI,List.length_range]at h3
   rw[ho,hs]
   simp only[Bool.and_true,vv,decide_eq_true_eq]
   exact⟨⟨by decide,by omega⟩,by omega⟩
end
end Go.Proofs.Ytpcjbkgbnoocaaa
