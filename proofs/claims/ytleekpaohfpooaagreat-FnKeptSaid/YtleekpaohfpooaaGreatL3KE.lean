/- A product of clauses holds each clause's monitor. -/
import Derived.Test.YtleekpaohfpooaaGreatL0KE
import Derived.Test.YtleekpaohfpooaaGreatL1KE
import Derived.Test.YtleekpaohfpooaaGreatL2KE
set_option linter.unusedVariables false
set_option linter.unusedSimpArgs false
open Option renaming bind → bC, bind_some → bE
open List renaming getElem?_eq_getElem → gs, getElem?_eq_some_iff → hV, replicate → sh, mem_of_getElem? → yB, length_append → yK, mem_singleton → yM, length_take → yP, getElem?_eq_none → yS, mem_append → yT, length_map → yW
open Bool renaming and_eq_true → yH, not_true → yJ
open Int renaming toNat_natCast → yN
namespace Go.Proofs.YtleekpaohfpooaaGreat
open Go Go.Wk Go.Proofs
def mst (c:Clause) (q x:Int):Int:=monNext c.Kind q (decide (x∈c.A)) (decide (x∈c.B))
theorem vy {a n:Nat}{f:Int->Int->Int}{q x:Int}(q0:0<=q) (q1:q<a) (x0:0<=x) (x1:x<n):tab ((numsN a).map λq=>(numsN n).map λx=>f q x) q x=f q x:=by
 obtain⟨q,rfl⟩:=ew q0
 obtain⟨x,rfl⟩:=ew x0
 unfold tab numsN
 rw[yN,yN]
 simp[List.getD_eq_getElem?_getD,List.getElem?_range (show q<a by omega),List.getElem?_range (show x<n by omega)]
theorem xd {c:Clause}{n:Nat}{q x:Int}(q0:0<=q) (q1:q<monStates c.Kind) (x0:0<=x) (x1:x<n):tab (monD c n).Next q x=mst c q x:=
 vy (f:=λq x=>mst c q x) q0 q1 x0 x1
structure Sm (n:Nat) (D:Det) (c:Clause) (i:Nat) (π:Int->Int):Prop where
 zero:π 0=0
 rng:∀r:Int,0<=r->r<D.Next.length->0<=π r/\π r<monStates c.Kind
 step:∀r x:Int,0<=r->r<D.Next.length->0<=x->x<n->π (tab D.Next r x)=mst c (π r) x
 pair:∃pr,D.Pairs[i]? =some pr/\∀r:Int,0<=r->r<D.Next.length->((r∈pr.Ask↔π r∈(monPair c.Kind).Ask)/\(r∈pr.Give↔π r∈(monPair c.Kind).Give))
def keyAt (K:List Key) (r:Int):Key:=(K[r.toNat]?).getD (0,0)
theorem oq {K:List Key}{r:Int}(r0:0<=r) (r1:r<K.length):K[r.toNat]? =some (keyAt K r):=by
 have h:K[r.toNat]? =some (K[r.toNat]'(by omega)):=gs (by omega)
 unfold keyAt
 rw[h];rfl
theorem rR {part:Key->Int}{K:List Key}{S:List Int}{r:Int}(r0:0<=r) (r1:r<K.length):r∈plK part K S K.length↔part (keyAt K r)∈S:=by
 rw[pg]
 have hk:=oq r0 r1
 constructor
 · rintro⟨i,h1,h2,v,h3,h4⟩
   have:r.toNat=i:=by omega
   rw[this,h3]at hk
   cases hk
   exact h4
 · intro h
   exact⟨r.toNat,by omega,by omega,_,hk,h⟩
theorem sG {ky:Key->Int->Key}{k:Nat}{K:List Key}{R:List (List Int)}(h:Prod ky k K K.length R){r x:Int}(r0:0<=r) (r1:r<K.length) (x0:0<=x) (x1:x<k):0<=tab R r x/\tab R r x<K.length/\keyAt K (tab R r x)=ky (keyAt K r) x:=by
 have hrl:=h.rl
 have hr:R[r.toNat]? =some (R[r.toNat]'(by omega)):=gs (by omega)
 obtain⟨_,v,b1,b2⟩:=h.row _ _ hr
 obtain⟨x,rfl⟩:=ew x0
 obtain⟨y,y1,y2,y3⟩:=b2 x (by omega)
 have hv:=oq r0 r1
 rw[b1]at hv
 have hv':v=keyAt K r:=Option.some.inj hv
 have ht:tab R r (x:Int)=y:=by
  unfold tab
  rw[List.getD_eq_getElem?_getD (l:=R),hr,Option.getD_some,List.getD_eq_getElem?_getD,yN,y1,Option.getD_some]
 have hyl:=(hV.1 y3).1
 rw[ht]
 refine⟨y2,by omega,?_⟩
 rw[← hv']
 unfold keyAt
 rw[y3];rfl
theorem PR.len {n:Nat}{cs:List Clause}{D:Det}(h:PR n cs D):D.Pairs.length=cs.length:=by
 induction h with
 | nil=>rfl
 | @snoc cs c D K R hp k ih=>
  show(D.Pairs.map _++[_]).length=_
  rw[yK,yW,yK,ih];rfl
theorem PR.sm {p:Sig}{n:Nat}(hn:ltd p=n):∀{cs:List Clause}{D:Det},PR n cs D->(∀c∈cs,cm p c=true)->∀(i:Nat) c,cs[i]? =some c->∃π,Sm n D c i π:=λ{cs D} h=>by
 induction h with
 | nil=>intro _ i c hc;simp at hc
 | @snoc cs c' D K R hp k ih=>
  intro hok i c hc
  have hR:(jD D (monD c' n) K R).Next=R:=rfl
  have hRl:R.length=K.length:=k.prod.rl
  have hP:(jD D (monD c' n) K R).Pairs=D.Pairs.map (plP (·.1) K)++(monD c' n).Pairs.map (plP (·.2) K):=rfl
  have hDl:D.Pairs.length=cs.length:=hp.len
  have hz:keyAt K 0=(0,0):=by
   unfold keyAt
   rw[show(0:Int).toNat=0 from rfl,k.prod.zero];rfl
  have hkin:∀r:Int,0<=r->r<R.length->0<=(keyAt K r).1/\(keyAt K r).1<D.Next.length/\0<=(keyAt K r).2/\(keyAt K r).2<(monD c' n).Next.length:=λr r0 r1=>
   k.kin _ (yB (oq r0 (by omega)))
  have hml:(monD c' n).Next.length=monStates c'.Kind:=by
   show((numsN _).map _).length=_
   rw[yW,gF]
  by_cases hi:i<cs.length
  · rw[List.getElem?_append_left hi]at hc
    obtain⟨π,s⟩:=ih (λc hc=>hok c (List.mem_append_left _ hc)) i c hc
    refine⟨λr=>π (keyAt K r).1,⟨by show π (keyAt K 0).1=0;rw[hz];exact s.zero,λr r0 r1=>?_,λr x r0 r1 x0 x1=>?_,?_⟩⟩
    · obtain⟨a1,a2,_,_⟩:=hkin r r0 r1
      exact s.rng _ a1 a2
    · obtain⟨a1,a2,_,_⟩:=hkin r r0 r1
      have ht:=(sG k.prod r0 (by rw[hR]at r1;omega) x0 x1).2.2
      rw[hR]
      show π (keyAt K (tab R r x)).1=_
      rw[ht]
      exact s.step _ x a1 a2 x0 x1
    · obtain⟨pr,p1,p2⟩:=s.pair
      refine⟨plP (·.1) K pr,?_,λr r0 r1=>?_⟩
      · rw[hP,List.getElem?_append_left (by rw[yW];omega),List.getElem?_map,p1];rfl
      · obtain⟨a1,a2,_,_⟩:=hkin r r0 r1
        have r1':r<K.length:=by rw[hR]at r1;omega
        obtain⟨b1,b2⟩:=p2 _ a1 a2
        exact⟨(rR r0 r1').trans b1,(rR r0 r1').trans b2⟩
  · have hil:=(hV.1 hc).1
    rw[yK]at hil
    simp only[List.length_cons,List.length_nil]at hil
    have ei:i=cs.length:=by omega
    subst ei
    have hcc:c=c':=by simp at hc;exact hc.symm
    subst hcc
    refine⟨λr=>(keyAt K r).2,⟨by show(keyAt K 0).2=0;rw[hz],λr r0 r1=>?_,λr x r0 r1 x0 x1=>?_,?_⟩⟩
    · obtain⟨_,_,a1,a2⟩:=hkin r r0 r1
      rw[hml]at a2
      exact⟨a1,a2⟩
    · obtain⟨_,_,a1,a2⟩:=hkin r r0 r1
      rw[hml]at a2
      have ht:=(sG k.prod r0 (by rw[hR]at r1;omega) x0 x1).2.2
      rw[hR]
      show(keyAt K (tab R r x)).2=_
      rw[ht]
      exact xd a1 a2 x0 x1
    · refine⟨plP (·.2) K (monPair c.Kind),?_,λr r0 r1=>?_⟩
      · rw[hP,List.getElem?_append_right (by rw[yW];omega),yW,hDl,Nat.sub_self];rfl
      · have r1':r<K.length:=by rw[hR]at r1;omega
        exact⟨rR r0 r1',rR r0 r1'⟩
end Go.Proofs.YtleekpaohfpooaaGreat
set_option linter.unusedVariables false
set_option linter.unusedSimpArgs false
namespace Go.Proofs.YtleekpaohfpooaaGreat
open Go Go.Wk Go.Proofs
def Sat (c:Clause) (L:Nat->Int):Prop:=
 if c.Kind=1 then ∀t,L t∈c.A
 else if c.Kind=2 then ∀t,L t∈c.A->L (t+1)∈c.B
 else if c.Kind=3 then ∀t,L t∈c.A->∃u,t<=u/\L u∈c.B
 else if c.Kind=4 then Par.Io λt=>L t∈c.A
 else if c.Kind=5 then ¬Par.Io λt=>L t∉c.A
 else if c.Kind=6 then ∃t,L t∈c.A
 else(Par.Io λt=>L t∈c.A)->Par.Io λt=>L t∈c.B
def mrun (c:Clause) (L:Nat->Int):Nat->Int
 | 0=>0
 | t+1=>mst c (mrun c L t) (L t)
def Well (A G:List Int) (s:Nat->Int):Prop:=(Par.Io λt=>s t∈A)->Par.Io λt=>s t∈G
theorem xj {S:Nat->Prop}:(Par.Io λt=>S (t+1))↔Par.Io S:=⟨λh N=>by
 obtain⟨m,h1,h2⟩:=h N
 exact⟨m+1,by omega,h2⟩,λh N=>by
 obtain⟨m,h1,h2⟩:=h (N+1)
 exact⟨m-1,by omega,by show S (m-1+1);rwa [show m-1+1=m by omega]⟩⟩
theorem gX {S T:Nat->Prop}(h:∀t,S t↔T t):Par.Io S↔Par.Io T:=by
 rw[show S=T from funext λt=>propext (h t)]
theorem ob {S T:Nat->Prop}(h:∀t,S (t+1)↔T t):Par.Io S↔Par.Io T:=xj.symm.trans (gX h)
theorem pY {s E:Nat->Prop}(h0:¬s 0) (h:∀t,s (t+1)↔s t\/E t):(Par.Io s↔∃t,E t)/\((Par.Io λt=>¬s t)↔∀t,¬E t)/\∀t,s t->∃u,E u:=by
 have key:∀t,s t↔∃u,u<t/\E u:=λt=>by
  induction t with
  | zero=>exact⟨λhs=>absurd hs h0,λ⟨u,hu,_⟩=>absurd hu (Nat.not_lt_zero u)⟩
  | succ t ih=>
   rw[h,ih]
   constructor
   · rintro(⟨u,h1,h2⟩ | h2)
     · exact⟨u,by omega,h2⟩
     · exact⟨t,by omega,h2⟩
   · rintro⟨u,h1,h2⟩
     by_cases e:u=t
     · subst e;exact .inr h2
     · exact .inl ⟨u,by omega,h2⟩
 have ex:∀t,s t->∃u,E u:=λt ht=>((key t).1 ht).elim λu hu=>⟨u,hu.2⟩
 refine⟨⟨λhi=>?_,λ⟨t,ht⟩ N=>⟨max N (t+1),by omega,(key _).2 ⟨t,by omega,ht⟩⟩⟩,⟨λhi t ht=>?_,λhn N=>⟨N,Nat.le_refl _,λhs=>?_⟩⟩,ex⟩
 · obtain⟨m,_,hm⟩:=hi 0
   exact ex m hm
 · obtain⟨m,h1,h2⟩:=hi (t+1)
   exact h2 ((key m).2 ⟨t,by omega,ht⟩)
 · obtain⟨u,hu⟩:=ex N hs
   exact hn u hu
section
variable {c:Clause}{L:Nat->Int}(k1:1<=c.Kind) (k7:c.Kind<=7)
include k1 k7
theorem r9:∀t,0<=mrun c L t/\mrun c L t<monStates c.Kind
 | 0=>by
  show(0:Int)<=0/\(0:Int)<_
  unfold monStates
  (repeat' split) <;> omega
 | t+1=>qi k1 k7 (r9 t).1 (r9 t).2 _ _
theorem wX:Sat c L↔Well (monPair c.Kind).Ask (monPair c.Kind).Give (mrun c L):=by
 have hin:=r9 (L:=L) k1 k7
 have hst:∀t,mrun c L (t+1)=monNext c.Kind (mrun c L t) (decide (L t∈c.A)) (decide (L t∈c.B)):=λt=>rfl
 have h0:mrun c L 0=0:=rfl
 generalize mrun c L=s at *
 have no:¬Par.Io λt=>s t∈([]:List Int):=λh=>by
  obtain⟨m,_,hm⟩:=h 0
  cases hm
 have nw:∀A,Well A [] s↔¬Par.Io λt=>s t∈A:=λA=>⟨λh h'=>no (h h'),λh h'=>absurd h' h⟩
 have one:∀a:Int,(Par.Io λt=>s t∈[a])↔Par.Io λt=>s t=a:=λa=>gX λt=>yM
 unfold Sat
 rcases kinds k1 k7 with k | k | k | k | k | k | k <;> rw[k]at hin hst ⊢ <;> simp only[monNext,monStates,b01,mx]at hin hst <;> simp(config:={ decide:=true }) only[if_true,if_false]at hin hst ⊢
 · show _↔Well [1] [] s
   have o:=pY (s:=λt=>s t=1) (E:=λt=>L t∉c.A) (by simp[h0]) (λt=>by
    rw[hst]
    rcases(show s t=0\/s t=1 by have:=hin t;omega) with e | e <;> by_cases h:L t∈c.A <;> simp[e,h])
   rw[nw,one,o.1]
   exact⟨λh ⟨t,ht⟩=>ht (h t),λh t=>Classical.byContradiction λhn=>h ⟨t,hn⟩⟩
 · show _↔Well [2] [] s
   have o:=pY (s:=λt=>s t=2) (E:=λt=>s t=1/\L t∉c.B) (by simp[h0]) (λt=>by
    rw[hst]
    by_cases hb:L t∈c.B <;> by_cases e:s t=2 <;> by_cases e1:s t=1 <;> by_cases ha:L t∈c.A <;> simp_all)
   rw[nw,one,o.1]
   refine⟨λh ⟨t,h1,h2⟩=>?_,λh t ha=>Classical.byContradiction λhn=>h ?_⟩
   · cases t with
     | zero=>rw[h0]at h1;cases h1
     | succ t=>
      refine h2 (h t ?_)
      rw[hst]at h1
      by_cases ha:L t∈c.A
      · exact ha
      · exfalso
        simp only[ha,decide_false]at h1
        split at h1 <;> simp at h1
   · by_cases e:s (t+1)=2
     · exact o.2.2 _ e
     · refine⟨t+1,?_,hn⟩
       rw[hst]at e ⊢
       split at e
       · exact absurd rfl e
       · rename_i hh
         rw[if_neg hh,decide_eq_true ha];rfl
 · show _↔Well [1] [0] s
   unfold Well
   rw[one,one]
   constructor
   · intro h hi N
     apply Classical.byContradiction
     intro hn
     have h1:∀t,N<=t->s t=1:=λt ht=>by
      have:=hin t
      have:¬s t=0:=λe=>hn ⟨t,ht,e⟩
      omega
     -- from when on it waits
     have hw:∀t,s t=1->∃u,u<t/\L u∈c.A/\∀v,u<=v->v<t->L v∉c.B:=λt=>by
      induction t with
      | zero=>intro e;rw[h0]at e;cases e
      | succ t ih=>
       intro e
       rw[hst]at e
       by_cases hb:L t∈c.B
       · simp[hb]at e
       · by_cases e1:s t=1
         · obtain⟨u,u1,u2,u3⟩:=ih e1
           exact⟨u,by omega,u2,λv v1 v2=>by
            by_cases ev:v=t
            · subst ev;exact hb
            · exact u3 v v1 (by omega)⟩
         · by_cases ha:L t∈c.A
           · exact⟨t,by omega,ha,λv v1 v2=>by rw[show v=t by omega];exact hb⟩
           · exfalso
             have:=hin t
             have:s t=0:=by omega
             simp[hb,ha,this]at e
     obtain⟨u,u1,u2,u3⟩:=hw N (h1 N (Nat.le_refl _))
     obtain⟨v,v1,v2⟩:=h u u2
     by_cases hv:v<N
     · exact u3 v v1 hv v2
     · have:=h1 (v+1) (by omega)
       rw[hst]at this
       simp[v2]at this
   · intro h t ha
     apply Classical.byContradiction
     intro hn
     have h1:∀u,t<u->s u=1:=λu=>by
      induction u with
      | zero=>intro hu;omega
      | succ u ih=>
       intro hu
       have hb:L u∉c.B:=λhb=>hn ⟨u,by omega,hb⟩
       rw[hst]
       by_cases e:t=u
       · subst e
         have:=hin t
         by_cases e1:s t=1
         · simp[hb,ha,e1]
         · have:s t=0:=by omega
           simp[hb,ha,this]
       · have e1:=ih (by omega)
         by_cases ha:L u∈c.A <;> simp[hb,ha,e1]
     obtain⟨m,m1,m2⟩:=h (λN=>⟨max N (t+1),by omega,h1 _ (by omega)⟩) (t+1)
     rw[h1 m (by omega)]at m2
     cases m2
 · show _↔Well [0,1] [1] s
   unfold Well
   rw[one,ob (S:=λt=>s t=1) (T:=λt=>L t∈c.A) (λt=>by rw[hst];by_cases h:L t∈c.A <;> simp[h])]
   exact⟨λh _=>h,λh=>h λN=>⟨N,Nat.le_refl _,by have:=hin N;simp;omega⟩⟩
 · show _↔Well [1] [] s
   rw[nw,one,ob (S:=λt=>s t=1) (T:=λt=>L t∉c.A) (λt=>by rw[hst];by_cases h:L t∈c.A <;> simp[h])]
 · show _↔Well [0] [] s
   have o:=pY (s:=λt=>s t=1) (E:=λt=>L t∈c.A) (by simp[h0]) (λt=>by
    rw[hst]
    rcases(show s t=0\/s t=1 by have:=hin t;omega) with e | e <;> by_cases h:L t∈c.A <;> simp[e,h])
   rw[nw,one,gX (S:=λt=>s t=0) (T:=λt=>¬s t=1) (λt=>by have:=hin t;omega),o.2.1]
   exact⟨λ⟨t,ht⟩ h=>h t ht,λh=>Classical.byContradiction λhn=>h λt ht=>hn ⟨t,ht⟩⟩
 · show _↔Well [2,3] [1,3] s
   unfold Well
   rw[ob (S:=λt=>s t∈[2,3]) (T:=λt=>L t∈c.A) (λt=>by rw[hst];by_cases h:L t∈c.A <;> by_cases h':L t∈c.B <;> simp[h,h']),
    ob (S:=λt=>s t∈[1,3]) (T:=λt=>L t∈c.B) (λt=>by rw[hst];by_cases h:L t∈c.A <;> by_cases h':L t∈c.B <;> simp[h,h'])]
end
end Go.Proofs.YtleekpaohfpooaaGreat
set_option linter.unusedVariables false
set_option linter.unusedSimpArgs false
namespace Go.Proofs.YtleekpaohfpooaaGreat
open Go Go.Wk Go.Proofs
def wordOk (w:Word) (n:Int):Bool:=decide ((w.Stem.length:Int)<=600)&&decide (1<=(w.Loop.length:Int))&&decide ((w.Loop.length:Int)<=600)&&w.Stem.all (inR n)&&w.Loop.all (inR n)
theorem iV {w:Word}{n:Int}(h:wordOk w n=true):w.Stem.length<=600/\1<=w.Loop.length/\w.Loop.length<=600/\w.Stem.all (inR n)=true/\w.Loop.all (inR n)=true:=by
 simp only[wordOk,yH,decide_eq_true_eq]at h
 obtain⟨⟨⟨⟨h1,h2⟩,h3⟩,h4⟩,h5⟩:=h
 exact⟨by omega,by omega,by omega,h4,h5⟩
end Go.Proofs.YtleekpaohfpooaaGreat
set_option linter.unusedVariables false
set_option linter.unusedSimpArgs false
namespace Go.Proofs.YtleekpaohfpooaaGreat
open Go Go.Wk Go.Proofs
end Go.Proofs.YtleekpaohfpooaaGreat
set_option linter.unusedVariables false
set_option linter.unusedSimpArgs false
namespace Go.Proofs.YtleekpaohfpooaaGreat
open Go Go.Wk Go.Proofs
theorem n7 (w:Word){n:Int}(h0: -1000000000000000000<=n) (h1:n<=1000000000000000000):lh w n=some (wordOk w n):=by
 unfold lh wordOk
 simp only[orE,bE,gp _ h0 h1,andE,ov]
 have:decide (1<=(w.Loop.length:Int))= !((w.Loop.length:Int)==0):=by
  by_cases h:(w.Loop.length:Int)=0
  · simp[h]
  · have h1:1<=(w.Loop.length:Int):=by omega
    have h2:((w.Loop.length:Int)==0)=false:=by rw[beq_eq_false_iff_ne];exact h
    rw[h2,decide_eq_true h1];rfl
 rw[this]
 generalize decide ((w.Stem.length:Int)<=600)=b1
 generalize w.Stem.all (inR n)=b2
 generalize decide ((w.Loop.length:Int)<=600)=b3
 generalize w.Loop.all (inR n)=b4
 generalize((w.Loop.length:Int)==0)=b5
 cases b1 <;> cases b2 <;> cases b3 <;> cases b4 <;> cases b5 <;> rfl
theorem jW (row:List Int) (v:Int):dH row v=some (decide (v∈row)):=by
 unfold dH
 rw[cP (f:=gA row v) (r:=true) (λx=> !(v==x)) (xs:=row) rfl (λi y hy=>by
  unfold gA
  rw[bH,hy,bE,show(y==v)=(v==y) from BEq.comm]
  cases v==y <;> rfl),← wz,List.any_eq_not_all_not]
 cases row.all (λx=> !(v==x)) <;> rfl
end Go.Proofs.YtleekpaohfpooaaGreat
set_option linter.unusedVariables false
set_option linter.unusedSimpArgs false
namespace Go.Proofs.YtleekpaohfpooaaGreat
open Go Go.Wk Go.Proofs
def ixW (s l t:Nat):Nat:=if t<s then t else s+(t-s) % l
def ltW (w:Word) (t:Nat):Int:=(w.Stem++w.Loop).getD (ixW w.Stem.length w.Loop.length t) 0
section
variable {w:Word}(hl:0<w.Loop.length)
include hl
theorem tS (t:Nat):ixW w.Stem.length w.Loop.length t<(w.Stem++w.Loop).length:=by
 have:=Nat.mod_lt (t-w.Stem.length) hl
 unfold ixW
 rw[yK]
 split <;> omega
theorem kp (t:Nat):(w.Stem++w.Loop)[ixW w.Stem.length w.Loop.length t]? =some (ltW w t):=by
 unfold ltW
 rw[List.getD_eq_getElem?_getD,gs (tS hl t)];rfl
omit hl in
theorem nS {i:Nat}(hi:i<(w.Stem++w.Loop).length):ixW w.Stem.length w.Loop.length i=i:=by
 rw[yK]at hi
 unfold ixW
 split
 · rfl
 · rw[Nat.mod_eq_of_lt (by omega)];omega
theorem nq {i:Nat}{x:Int}(h:(w.Stem++w.Loop)[i]? =some x):ltW w i=x:=by
 have:=kp hl i
 rw[nS (hV.1 h).1,h]at this
 exact(Option.some.inj this).symm
theorem pl (t:Nat):ltW w t∈w.Stem++w.Loop:=yB (kp hl t)
theorem sv {t:Nat}(ht:w.Stem.length<=t):ltW w t∈w.Loop:=by
 have:=kp hl t
 unfold ixW at this
 rw[if_neg (by omega),List.getElem?_append_right (by omega)]at this
 exact yB this
theorem uE {p:Int->Prop}:(∀t,p (ltW w t))↔∀x∈w.Stem++w.Loop,p x:=⟨λh x hx=>by
 obtain⟨i,hi⟩:=List.getElem?_of_mem hx
 rw[← nq hl hi];exact h i,λh t=>h _ (pl hl t)⟩
theorem pF {p:Int->Prop}:(Par.Io λt=>p (ltW w t))↔∃x∈w.Loop,p x:=⟨λh=>by
 obtain⟨m,h1,h2⟩:=h w.Stem.length
 exact⟨_,sv hl h1,h2⟩,λ⟨x,hx,hp⟩ N=>by
 obtain⟨i,hi⟩:=List.getElem?_of_mem hx
 have hil:=(hV.1 hi).1
 have hm:w.Stem.length+i+w.Loop.length * N>=N:=by
  have:=Nat.mul_le_mul_right N hl
  omega
 refine⟨w.Stem.length+i+w.Loop.length * N,hm,?_⟩
 have:=kp hl (w.Stem.length+i+w.Loop.length * N)
 unfold ixW at this
 rw[if_neg (by omega),show w.Stem.length+i+w.Loop.length * N-w.Stem.length=i+w.Loop.length * N by omega,Nat.add_mul_mod_self_left,Nat.mod_eq_of_lt hil,List.getElem?_append_right (by omega),show w.Stem.length+i-w.Stem.length=i by omega,hi]at this
 show p (ltW w _)
 rw[← Option.some.inj this];exact hp⟩
theorem pC (t:Nat):ixW w.Stem.length w.Loop.length (t+1)=if ixW w.Stem.length w.Loop.length t+1<(w.Stem++w.Loop).length then ixW w.Stem.length w.Loop.length t+1 else w.Stem.length:=by
 rw[yK]
 unfold ixW
 by_cases h:t<w.Stem.length
 · by_cases h':t+1<w.Stem.length
   · rw[if_pos h,if_pos h',if_pos (by omega)]
   · rw[if_pos h,if_neg h',if_pos (by omega),show t+1-w.Stem.length=0 by omega,Nat.zero_mod];omega
 · rw[if_neg h,if_neg (by omega),show t+1-w.Stem.length=t-w.Stem.length+1 by omega]
   have:=Nat.mod_lt (t-w.Stem.length) hl
   rw[Nat.add_mod]
   by_cases e:(t-w.Stem.length) % w.Loop.length+1=w.Loop.length
   · rw[if_neg (by omega)]
     by_cases e1:w.Loop.length=1
     · rw[e1];simp[Nat.mod_one]
     · rw[Nat.mod_eq_of_lt (a:=1) (by omega),e,Nat.mod_self];omega
   · rw[if_pos (by omega),Nat.mod_eq_of_lt (a:=1) (by omega),Nat.mod_eq_of_lt (by omega)];omega
end
theorem yh (xs A:List Int):jy xs A=some (xs.all λx=>decide (x∈A)):=by
 unfold jy
 rw[cP (f:=io xs A) (r:=false) (λx=>decide (x∈A)) (xs:=xs) rfl (λi x hx=>by
  unfold io
  rw[bH,hx,bE,jW,bE]
  cases decide (x∈A) <;> rfl)]
 cases xs.all λx=>decide (x∈A) <;> rfl
theorem tV (xs A:List Int):fc xs A=some (xs.any λx=>decide (x∈A)):=by
 unfold fc
 rw[cP (f:=g9 xs A) (r:=true) (λx=> !decide (x∈A)) (xs:=xs) rfl (λi x hx=>by
  unfold g9
  rw[bH,hx,bE,jW,bE]
  cases decide (x∈A) <;> rfl),List.any_eq_not_all_not]
 cases xs.all λx=> !decide (x∈A) <;> rfl
theorem mB {xs A:List Int}:(xs.any λx=>decide (x∈A))=true↔∃x∈xs,x∈A:=by
 rw[List.any_eq_true]
 exact⟨λ⟨x,h1,h2⟩=>⟨x,h1,of_decide_eq_true h2⟩,λ⟨x,h1,h2⟩=>⟨x,h1,decide_eq_true h2⟩⟩
theorem wc {xs A:List Int}:(xs.all λx=>decide (x∈A))=true↔∀x∈xs,x∈A:=by
 rw[List.all_eq_true]
 exact⟨λh x hx=>of_decide_eq_true (h x hx),λh x hx=>decide_eq_true (h x hx)⟩
theorem yo {p:Sig}(hs:sigOk p=true){c:Clause}(hb:Clause.bd c) (hc:cm p c=true){w:Word}(hw:wordOk w (ltr p)=true):∃b,kR p c w=some b/\(b=true↔Sat c (ltW w)):=by
 obtain⟨w1,w2,w3,w4,w5⟩:=iV hw
 obtain⟨k1,k7⟩:=lM hc
 have hl:=lU hs
 have hl0:0<w.Loop.length:=by omega
 have hwo:iU p w=some true:=by
  unfold iU
  rw[dP,hs,dV hs]
  simp only[bE,cond_true]
  rw[n7 w (by omega) (by omega),hw];rfl
 have hcp:da w.Stem=some w.Stem:=by
  unfold da
  rw[appL (by rw[List.length_nil];omega) rfl];rfl
 have hap:appS 8 w.Stem w.Loop=some (w.Stem++w.Loop):=appL (by omega) rfl
 unfold kR
 rw[kx hs hb,hc,hwo]
 simp only[bE,yJ,cond_false,hcp,hap,yh,tV]
 have hlen:(w.Stem++w.Loop).length<=1200:=by rw[yK];omega
 unfold Sat
 rcases kinds k1 k7 with k | k | k | k | k | k | k <;> rw[k] <;> simp(config:={ decide:=true }) only[if_true,if_false]
 · exact⟨_,rfl,wc.trans (uE hl0 (p:=λx=>x∈c.A)).symm⟩
 · show ∃b,bC (kX c (w.Stem++w.Loop) (w.Stem.length:Int)) _=some b/\_
   unfold kX
   have hn:∀j:Nat,j<(w.Stem++w.Loop).length->((w.Stem++w.Loop).getD (if j+1<(w.Stem++w.Loop).length then j+1 else w.Stem.length) 0)=ltW w (j+1):=λj hj=>by
    unfold ltW
    rw[pC hl0,nS hj]
   rw[cP (f:=g8 c (w.Stem++w.Loop) (w.Stem.length:Int)) (r:=false) (xs:=List.range (w.Stem++w.Loop).length) (λj=> !decide (ltW w j∈c.A)||decide (ltW w (j+1)∈c.B)) (by simp) (λi x hx=>by
    have hi:i<(w.Stem++w.Loop).length:=by simpa using (hV.1 hx).1
    have hxi:i=x:=Option.some.inj ((List.getElem?_range hi).symm.trans hx)
    subst hxi
    have hq:(bif decide (IntKind.i64.wrap ((i:Int)+1)<((w.Stem++w.Loop).length:Int)) then some (IntKind.i64.wrap ((i:Int)+1)) else some (w.Stem.length:Int))=some (((if i+1<(w.Stem++w.Loop).length then i+1 else w.Stem.length:Nat):Int)):=by
     rw[wr' (by omega) (by omega)]
     by_cases h:i+1<(w.Stem++w.Loop).length
     · rw[decide_eq_true (by omega),if_pos h];rfl
     · rw[decide_eq_false (by omega),if_neg h];rfl
    have hlt:(if i+1<(w.Stem++w.Loop).length then i+1 else w.Stem.length)<(w.Stem++w.Loop).length:=by
     rw[yK];split <;> omega
    have hv:=gs hlt
    have hv':=hn i hi
    rw[List.getD_eq_getElem?_getD,hv,Option.getD_some]at hv'
    unfold g8
    rw[hq,bE,bH,gs hi,bE,jW,bE,bH,hv,hv',← nq hl0 (gs hi)]
    simp only[bE,jW]
    cases decide (ltW w i∈c.A) <;> cases decide (ltW w (i+1)∈c.B) <;> rfl)]
   refine⟨(List.range (w.Stem++w.Loop).length).all λj=> !decide (ltW w j∈c.A)||decide (ltW w (j+1)∈c.B),?_,?_⟩
   · cases(List.range (w.Stem++w.Loop).length).all λj=> !decide (ltW w j∈c.A)||decide (ltW w (j+1)∈c.B) <;> rfl
   · rw[List.all_eq_true]
     constructor
     · intro h t ha
       have hx:=tS hl0 t
       have:=h _ (List.mem_range.2 hx)
       have e1:ltW w (ixW w.Stem.length w.Loop.length t)=ltW w t:=nq hl0 (kp hl0 t)
       have e2:ltW w (ixW w.Stem.length w.Loop.length t+1)=ltW w (t+1):=by
        unfold ltW
        rw[pC hl0,pC hl0,nS hx]
       rw[e1,e2,decide_eq_true ha]at this
       exact of_decide_eq_true this
     · intro h j _
       by_cases ha:ltW w j∈c.A
       · rw[decide_eq_true (h j ha),Bool.or_true]
       · rw[decide_eq_false ha];rfl
 · show ∃b,bC (iY c w (w.Stem++w.Loop)) _=some b/\_
   unfold iY
   rw[tV,bE]
   by_cases hB:∃x∈w.Loop,x∈c.B
   · rw[mB.2 hB]
     exact⟨true,rfl,⟨λ_ t _=>((pF hl0 (p:=λx=>x∈c.B)).2 hB) t,λ_=>rfl⟩⟩
   · rw[show(w.Loop.any λx=>decide (x∈c.B))=false from Bool.eq_false_iff.2 λh=>hB (mB.1 h),cond_false]
     rw[cP (f:=fG c (w.Stem++w.Loop)) (r:=false) (xs:=List.range (w.Stem++w.Loop).length) (λj=> !decide (ltW w j∈c.A)||((w.Stem++w.Loop).drop j).any λx=>decide (x∈c.B)) (by simp) (λi x hx=>by
      have hi:i<(w.Stem++w.Loop).length:=by simpa using (hV.1 hx).1
      have hxi:i=x:=Option.some.inj ((List.getElem?_range hi).symm.trans hx)
      subst hxi
      have hsub:subS (w.Stem++w.Loop) (i:Int) ((w.Stem++w.Loop).length:Int)=some ((w.Stem++w.Loop).drop i):=by
       unfold subS
       rw[if_pos (by omega),yN,yN,List.take_length]
      unfold fG
      rw[bH,gs hi,bE,jW,bE,hsub,← nq hl0 (gs hi)]
      simp only[bE,tV]
      cases decide (ltW w i∈c.A) <;> cases((w.Stem++w.Loop).drop i).any λx=>decide (x∈c.B) <;> rfl)]
     refine⟨(List.range (w.Stem++w.Loop).length).all λj=> !decide (ltW w j∈c.A)||((w.Stem++w.Loop).drop j).any λx=>decide (x∈c.B),?_,?_⟩
     · cases(List.range (w.Stem++w.Loop).length).all λj=> !decide (ltW w j∈c.A)||((w.Stem++w.Loop).drop j).any λx=>decide (x∈c.B) <;> rfl
     · rw[List.all_eq_true]
       constructor
       · intro h t ha
         have hx:=tS hl0 t
         have hj:=h _ (List.mem_range.2 hx)
         rw[show ltW w (ixW w.Stem.length w.Loop.length t)=ltW w t from nq hl0 (kp hl0 t),decide_eq_true ha,yJ,Bool.false_or]at hj
         obtain⟨x,x1,x2⟩:=mB.1 hj
         obtain⟨i,hi⟩:=List.getElem?_of_mem x1
         rw[List.getElem?_drop]at hi
         by_cases hil:ixW w.Stem.length w.Loop.length t+i<w.Stem.length
         · refine⟨ixW w.Stem.length w.Loop.length t+i,?_,by rw[nq hl0 hi];exact x2⟩
           unfold ixW at hil ⊢
           split <;> rename_i hh
           · omega
           · rw[if_neg hh]at hil;omega
         · exfalso
           rw[List.getElem?_append_right (by omega)]at hi
           exact hB ⟨x,yB hi,x2⟩
       · intro h j hj
         by_cases ha:ltW w j∈c.A
         · obtain⟨u,u1,u2⟩:=h j ha
           have hu:u<w.Stem.length:=Classical.byContradiction λhn=>hB ⟨_,sv hl0 (by omega),u2⟩
           have hg:=kp hl0 u
           rw[nS (by rw[yK];omega)]at hg
           rw[show(((w.Stem++w.Loop).drop j).any λx=>decide (x∈c.B))=true from mB.2 ⟨_,yB (i:=u-j) (by rw[List.getElem?_drop,show j+(u-j)=u by omega];exact hg),u2⟩,Bool.or_true]
         · rw[decide_eq_false ha];rfl
 · exact⟨_,rfl,mB.trans (pF hl0 (p:=λx=>x∈c.A)).symm⟩
 · refine⟨_,rfl,wc.trans ?_⟩
   rw[pF hl0 (p:=λx=>x∉c.A)]
   exact⟨λh ⟨x,x1,x2⟩=>x2 (h x x1),λh x hx=>Classical.byContradiction λhn=>h ⟨x,hx,hn⟩⟩
 · exact⟨_,rfl,mB.trans ⟨λ⟨x,h1,h2⟩=>Classical.byContradiction λhn=>(uE hl0 (p:=λx=>x∉c.A)).1 (λt ht=>hn ⟨t,ht⟩) x h1 h2,λ⟨t,ht⟩=>⟨_,pl hl0 t,ht⟩⟩⟩
 · refine⟨!(w.Loop.any λx=>decide (x∈c.A))||(w.Loop.any λx=>decide (x∈c.B)),?_,?_⟩
   · cases(w.Loop.any λx=>decide (x∈c.A)) <;> cases(w.Loop.any λx=>decide (x∈c.B)) <;> rfl
   · rw[pF hl0 (p:=λx=>x∈c.A),pF hl0 (p:=λx=>x∈c.B),← mB,← mB]
     cases(w.Loop.any λx=>decide (x∈c.A)) <;> cases(w.Loop.any λx=>decide (x∈c.B)) <;> simp
end Go.Proofs.YtleekpaohfpooaaGreat
set_option linter.unusedVariables false
set_option linter.unusedSimpArgs false
namespace Go.Proofs.YtleekpaohfpooaaGreat
open Go Go.Wk Go.Proofs
def rowOk (p:Sig) (m:Machine) (i:Nat) (row:List Int):Bool:=
 match m.Out[i]? with
 | some o=>((row.length:Int)==pw p.In)&&((o.length:Int)==(row.length:Int))&&row.all (inR (m.Next.length:Int))&&o.all (inR (pw p.Out))
 | none=>false
def machOk (p:Sig) (m:Machine):Bool:=decide (1<=(m.Next.length:Int))&&decide ((m.Next.length:Int)<=48)&&((m.Out.length:Int)==(m.Next.length:Int))&&m.Next.zipIdx.all (λx=>rowOk p m x.2 x.1)
theorem lV (p:Sig) (m:Machine):fH p m=some (sigOk p&&machOk p m):=by
 unfold fH machOk
 rw[dP,bE]
 cases hs:sigOk p with
 | false=>rfl
 | true=>
  obtain⟨hi,ho⟩:=dI hs
  have pI:=iZ p.In
  have pO:=iZ p.Out
  simp only[yJ,cond_false,dc,bE,Bool.true_and]
  cases h1:(decide (1<=(m.Next.length:Int))&&decide ((m.Next.length:Int)<=48)) with
  | false=>rfl
  | true=>
   simp only[yH,decide_eq_true_eq]at h1
   simp only[yJ,cond_false,bE,Bool.true_and,bne]
   cases h2:((m.Out.length:Int)==(m.Next.length:Int)) with
   | false=>rfl
   | true=>
    have h2:=beq_iff_eq.1 h2
    rw[kF (f:=fj p m) (r:=false) (rowOk p m) (xs:=m.Next) rfl (λi row hx=>by
     have hlt:=(hV.1 hx).1
     obtain⟨o,hout⟩:∃o,m.Out[i]? =some o:=⟨_,gs (by omega)⟩
     have hv:rowOk p m i row=(((row.length:Int)==pw p.In)&&((o.length:Int)==(row.length:Int))&&row.all (inR (m.Next.length:Int))&&o.all (inR (pw p.Out))):=by unfold rowOk;rw[hout]
     rw[hv]
     unfold fj
     rw[bH,bH,hx,hout]
     simp only[bE,jd,dm hi,dm ho,gp row (n:=(m.Next.length:Int)) (by omega) (by omega),gp o (n:=pw p.Out) (by omega) (by omega),bne]
     generalize((row.length:Int)==pw p.In)=b1
     generalize((o.length:Int)==(row.length:Int))=b2
     generalize row.all (inR (m.Next.length:Int))=b3
     generalize o.all (inR (pw p.Out))=b4
     cases b1 <;> cases b2 <;> cases b3 <;> cases b4 <;> rfl)]
    simp only[yJ,cond_false,bE,Bool.true_and]
    cases List.all m.Next.zipIdx (λx=>rowOk p m x.2 x.1) <;> rfl
theorem fq {p:Sig}{m:Machine}(h:machOk p m=true):1<=m.Next.length/\m.Next.length<=48/\m.Out.length=m.Next.length /\
 (∀row∈m.Next,RowIn m.Next.length (pw p.In) row)/\(∀row∈m.Out,RowIn (pw p.Out) (pw p.In) row):=by
 simp only[machOk,yH,decide_eq_true_eq,beq_iff_eq]at h
 obtain⟨⟨⟨h1,h2⟩,h3⟩,h4⟩:=h
 rw[List.all_eq_true]at h4
 have key:∀(i:Nat) row,m.Next[i]? =some row->∃o,m.Out[i]? =some o/\RowIn m.Next.length (pw p.In) row/\RowIn (pw p.Out) (pw p.In) o:=λi row hr=>by
  have:=h4 (row,i) (List.mem_zipIdx_iff_getElem?.2 hr)
  unfold rowOk at this
  cases ho:m.Out[i]? with
  | none=>simp[ho]at this
  | some o=>
   simp only[ho,yH,beq_iff_eq,List.all_eq_true,cQ]at this
   obtain⟨⟨⟨k1,k2⟩,k3⟩,k4⟩:=this
   exact⟨o,rfl,⟨k1,k3⟩,⟨by omega,k4⟩⟩
 refine⟨by omega,by omega,by omega,λrow hr=>?_,λo ho=>?_⟩
 · obtain⟨i,hi⟩:=List.mem_iff_getElem?.1 hr
   exact(key i row hi).choose_spec.2.1
 · obtain⟨i,hi⟩:=List.mem_iff_getElem?.1 ho
   have hlt:=(hV.1 hi).1
   obtain⟨o',h5,_,h6⟩:=key i _ (gs (by omega))
   rw[hi]at h5
   cases h5
   exact h6
end Go.Proofs.YtleekpaohfpooaaGreat
set_option linter.unusedVariables false
set_option linter.unusedSimpArgs false
namespace Go.Proofs.YtleekpaohfpooaaGreat
open Go Go.Wk Go.Proofs
theorem uJ {p:Sig}{m:Machine}(h1:1<=m.Next.length) (h2:m.Next.length<=48) (h3:m.Out.length=m.Next.length) (h4:∀row∈m.Next,RowIn m.Next.length (pw p.In) row) (h5:∀row∈m.Out,RowIn (pw p.Out) (pw p.In) row):machOk p m=true:=by
 unfold machOk
 rw[h3]
 simp only[yH,decide_eq_true_eq,beq_self_eq_true,and_true,List.all_eq_true]
 refine⟨by omega,λx hx=>?_⟩
 obtain⟨row,i⟩:=x
 rw[List.mem_zipIdx_iff_getElem?]at hx
 have hx:m.Next[i]? =some row:=hx
 have hlt:=(hV.1 hx).1
 have ho:m.Out[i]? =some (m.Out[i]'(by omega)):=gs (by omega)
 have hom:=h5 _ (List.getElem_mem (by omega:i<m.Out.length))
 obtain⟨a1,a2⟩:=h4 row (yB hx)
 unfold rowOk
 rw[ho]
 simp only[yH,beq_iff_eq,List.all_eq_true,cQ]
 exact⟨⟨⟨a1,by rw[a1];exact hom.1⟩,a2⟩,hom.2⟩
end Go.Proofs.YtleekpaohfpooaaGreat
set_option linter.unusedVariables false
set_option linter.unusedSimpArgs false
namespace Go.Proofs.YtleekpaohfpooaaGreat
open Go Go.Wk Go.Proofs
def behind (m:Machine) (q:Int) (xs:List Int):Int:=xs.foldl (λq x=>tab m.Next q x) q
def lettersM (p:Sig) (m:Machine):Int->List Int->List Int
 | _,[]=>[]
 | q,x::xs=>(tab m.Out q x * pw p.In+x)::lettersM p m (tab m.Next q x) xs
theorem nH (p:Sig) (m:Machine):∀(xs:List Int) (q:Int) (acc:List Int),xs.foldl (λ(s:Int×List Int) x=>(tab m.Next s.1 x,s.2++[tab m.Out s.1 x * pw p.In+x])) (q,acc)=(behind m q xs,acc++lettersM p m q xs)
 | [],q,acc=>by simp[behind,lettersM]
 | x::xs,q,acc=>by
  rw[List.foldl_cons,nH p m xs]
  simp[behind,lettersM]
section
variable {p:Sig}{m:Machine}(hm:machOk p m=true)
include hm
theorem uV {q:Int}{xs:List Int}(q0:0<=q) (q1:q<m.Next.length) (hx:xs.all (inR (pw p.In))=true):0<=behind m q xs/\behind m q xs<m.Next.length:=by
 obtain⟨_,_,_,h4,_⟩:=fq hm
 induction xs generalizing q with
 | nil=>exact⟨q0,q1⟩
 | cons x xs ih=>
  rw[List.all_cons,yH]at hx
  obtain⟨i0,i1⟩:=cQ.1 hx.1
  obtain⟨_,_,_,t0,t1⟩:=lj h4 q0 q1 i0 i1
  exact ih t0 t1 hx.2
theorem lP (hs:sigOk p=true){q:Int}{xs:List Int}(q0:0<=q) (q1:q<m.Next.length) (hx:xs.all (inR (pw p.In))=true) (hl:xs.length<=1000000):fR p m q xs=some (lettersM p m q xs):=by
 obtain⟨_,_,h3,h4,h5⟩:=fq hm
 rw[List.all_eq_true]at hx
 have pI:=iZ p.In
 have pO:=iZ p.Out
 unfold fR
 rw[(qQ (f:=eN p m xs) (λ(s:Int×List Int) x=>(tab m.Next s.1 x,s.2++[tab m.Out s.1 x * pw p.In+x])) (λj s=>0<=s.1/\s.1<m.Next.length/\s.2.length=j) (λi x s hi ⟨k0,k1,k2⟩=>by
  obtain⟨i0,i1⟩:=cQ.1 (hx x (yB hi))
  obtain⟨row,t1,t2,t3⟩:=lj h4 k0 k1 i0 i1
  obtain⟨row',u1,u2,u3⟩:=lj h5 k0 (by omega) i0 i1
  have hlt:=(hV.1 hi).1
  have hmul:0<=tab m.Out s.1 x * pw p.In:=Int.mul_nonneg u3.1 (by omega)
  have hmul2:tab m.Out s.1 x * pw p.In<=4 * 4:=Int.mul_le_mul (by omega) (by omega) (by omega) (by omega)
  unfold eN
  rw[bH,hi,bE,bE,u1,bE,u2,bE,jd,dm (dI hs).1,bE,bE,wr' (z:=tab m.Out s.1 x * pw p.In) (by omega) (by omega),wr' (by omega) (by omega),app1 (by omega) rfl,bE,bE,t1,bE,t2]
  exact⟨rfl,t3.1,t3.2,by simp;omega⟩) (s:=(q,[])) ⟨q0,q1,rfl⟩).1,nH]
 rfl
end
end Go.Proofs.YtleekpaohfpooaaGreat
set_option linter.unusedVariables false
set_option linter.unusedSimpArgs false
namespace Go.Proofs.YtleekpaohfpooaaGreat
open Go Go.Wk Go.Proofs
section
variable {p:Sig}{m:Machine}(hm:machOk p m=true)
include hm
theorem mh {q:Int}{xs:List Int}(q0:0<=q) (q1:q<m.Next.length) (hx:xs.all (inR (pw p.In))=true):gE m q xs=some (behind m q xs):=by
 obtain⟨_,_,_,h4,_⟩:=fq hm
 rw[List.all_eq_true]at hx
 unfold gE
 rw[(qQ (f:=fE m xs) (λq x=>tab m.Next q x) (λ_ q=>0<=q/\q<m.Next.length) (λi x q hi ⟨k0,k1⟩=>by
  obtain⟨i0,i1⟩:=cQ.1 (hx x (yB hi))
  obtain⟨row,t1,t2,t3⟩:=lj h4 k0 k1 i0 i1
  unfold fE
  rw[bH,hi,bE,t1,bE,t2]
  exact⟨rfl,t3⟩) ⟨q0,q1⟩).1]
 rfl
end
end Go.Proofs.YtleekpaohfpooaaGreat
set_option linter.unusedVariables false
set_option linter.unusedSimpArgs false
namespace Go.Proofs.YtleekpaohfpooaaGreat
open Go Go.Wk Go.Proofs
def seg (X:Nat->Int):Nat->Nat->List Int
 | _,0=>[]
 | t,n+1=>X t::seg X (t+1) n
theorem gu (X:Nat->Int):∀n t,(seg X t n).length=n
 | 0,_=>rfl
 | n+1,t=>congrArg (· + 1) (gu X n (t+1))
theorem nY (X:Nat->Int):∀n t i,i<n->(seg X t n)[i]? =some (X (t+i))
 | n+1,t,0,_=>rfl
 | n+1,t,i+1,h=>by
  show(seg X (t+1) n)[i]? =_
  rw[nY X n (t+1) i (by omega),show t+1+i=t+(i+1) by omega]
theorem uA {X:Nat->Int}{xs:List Int}{t:Nat}(h:∀i x,xs[i]? =some x->X (t+i)=x):xs=seg X t xs.length:=List.ext_getElem? λi=>by
 by_cases hi:i<xs.length
 · rw[nY X _ t i hi,gs hi,h i _ (gs hi)]
 · rw[yS (by omega),yS (by rw[gu];omega)]
theorem jS (X:Nat->Int):∀a b t,seg X t a++seg X (t+a) b=seg X t (a+b)
 | 0,b,t=>by rw[Nat.zero_add];rfl
 | a+1,b,t=>by
  rw[show a+1+b=a+b+1 by omega]
  show X t::(seg X (t+1) a++seg X (t+(a+1)) b)=X t::seg X (t+1) (a+b)
  rw[← jS X a b (t+1),show t+1+a=t+(a+1) by omega]
theorem tP {X:Nat->Int}{P:Int->Prop}(h:∀t,P (X t)):∀n t,∀x∈seg X t n,P x
 | 0,_,x,hx=>by cases hx
 | n+1,t,x,hx=>by
  rcases List.mem_cons.1 hx with e | hx
  · rw[e];exact h t
  · exact tP h n (t+1) x hx
theorem wK {X:Nat->Int}{a b:Nat}(hb:0<b) (hp:∀t,a<=t->X (t+b)=X t) (t:Nat):ltW ⟨seg X 0 a,seg X a b⟩ t=X t:=by
 have hX:∀j s,a<=s->X (s+b * j)=X s:=λj s hs=>by
  induction j with
  | zero=>rfl
  | succ j ih=>rw[Nat.mul_succ,← Nat.add_assoc,hp _ (by omega),ih]
 have hA:=jS X a b 0
 rw[Nat.zero_add]at hA
 unfold ltW
 dsimp only
 rw[hA,gu,gu]
 have hm:=Nat.mod_lt (t-a) hb
 have hlt:ixW a b t<a+b:=by unfold ixW;split <;> omega
 rw[List.getD_eq_getElem?_getD,nY X _ 0 _ hlt,Option.getD_some,Nat.zero_add]
 unfold ixW
 split
 · rfl
 · have:=Nat.mod_add_div (t-a) b
   have h2:=hX ((t-a) / b) (a+(t-a) % b) (by omega)
   rw[show a+(t-a) % b+b * ((t-a) / b)=t by omega]at h2
   exact h2.symm
def runM (m:Machine) (I:Nat->Int):Nat->Int
 | 0=>0
 | t+1=>tab m.Next (runM m I t) (I t)
def letM (p:Sig) (m:Machine) (I:Nat->Int) (t:Nat):Int:=tab m.Out (runM m I t) (I t) * pw p.In+I t
theorem uk (p:Sig) (m:Machine) (I:Nat->Int):∀n t,behind m (runM m I t) (seg I t n)=runM m I (t+n)/\lettersM p m (runM m I t) (seg I t n)=seg (letM p m I) t n
 | 0,_=>⟨rfl,rfl⟩
 | n+1,t=>by
  obtain⟨h1,h2⟩:=uk p m I n (t+1)
  refine⟨?_,congrArg (letM p m I t:: ·) h2⟩
  rw[show t+(n+1)=t+1+n by omega]
  exact h1
theorem sd {b:Int->Int}{f:Nat->Int}(hf:∀j,f (j+1)=b (f j)):∀(k:Nat) (T:List Int) (q:Int),T=seg f 0 T.length->q=f T.length->(lasso b k T q).1=seg f 0 (lasso b k T q).1.length/\(lasso b k T q).2=f (lasso b k T q).1.length
 | 0,T,q,h1,h2=>⟨h1,h2⟩
 | k+1,T,q,h1,h2=>by
  unfold lasso
  split
  · exact⟨h1,h2⟩
  · refine sd hf k _ _ ?_ ?_
    · have:=jS f T.length 1 0
      rw[← h1,Nat.zero_add]at this
      rw[yK,List.length_singleton,← this,h2];rfl
    · rw[yK,List.length_singleton,hf,h2]
section
variable {p:Sig}{m:Machine}(hm:machOk p m=true)
include hm
theorem nE {I:Nat->Int}(hI:∀t,0<=I t/\I t<pw p.In):∀t,0<=runM m I t/\runM m I t<m.Next.length
 | 0=>by
  obtain⟨n1,_⟩:=fq hm
  show(0:Int)<=0/\(0:Int)<_
  omega
 | t+1=>by
  obtain⟨_,_,_,h4,_⟩:=fq hm
  obtain⟨_,_,_,t0,t1⟩:=lj h4 (nE hI t).1 (nE hI t).2 (hI t).1 (hI t).2
  exact⟨t0,t1⟩
theorem wy (hs:sigOk p=true){I:Nat->Int}(hI:∀t,0<=I t/\I t<pw p.In) (t:Nat):0<=letM p m I t/\letM p m I t<ltr p:=by
 obtain⟨_,_,h3,_,h5⟩:=fq hm
 obtain⟨r0,r1⟩:=nE hm hI t
 obtain⟨_,_,_,t0,t1⟩:=lj h5 r0 (by rw[h3];exact r1) (hI t).1 (hI t).2
 obtain⟨i0,i1⟩:=hI t
 unfold letM
 generalize tab m.Out (runM m I t) (I t)=o at *
 generalize I t=i at *
 have e:ltr p=pw p.Out * pw p.In:=Int.mul_comm _ _
 rw[e]
 have h1:(o+1) * pw p.In<=pw p.Out * pw p.In:=Int.mul_le_mul_of_nonneg_right (by omega) (by omega)
 have h2:0<=o * pw p.In:=Int.mul_nonneg t0 (by omega)
 rw[Int.add_mul,Int.one_mul]at h1
 omega
theorem vl (hs:sigOk p=true){w:Word}(hw:wordOk w (pw p.In)=true) (hz:w.Stem.length+48 * w.Loop.length<=600):∃r,la p m w=some r/\wordOk r (ltr p)=true/\ltW r=letM p m (ltW w):=by
 obtain⟨n1,n2,h3,h4,h5⟩:=fq hm
 obtain⟨w1,w2,w3,w4,w5⟩:=iV hw
 have pI:=iZ p.In
 have hl0:0<w.Loop.length:=by omega
 have hI:∀t,0<=ltW w t/\ltW w t<pw p.In:=λt=>by
  rcases yT.1 (pl hl0 t) with h | h
  · exact cQ.1 (List.all_eq_true.1 w4 _ h)
  · exact cQ.1 (List.all_eq_true.1 w5 _ h)
 have hSt:w.Stem=seg (ltW w) 0 w.Stem.length:=uA λi x hi=>by
  rw[Nat.zero_add]
  exact nq hl0 (by rw[List.getElem?_append_left (hV.1 hi).1];exact hi)
 have hLp:∀j,w.Loop=seg (ltW w) (w.Stem.length+j * w.Loop.length) w.Loop.length:=λj=>uA λi x hi=>by
  have hil:=(hV.1 hi).1
  have:=kp hl0 (w.Stem.length+j * w.Loop.length+i)
  unfold ixW at this
  rw[if_neg (by omega),show w.Stem.length+j * w.Loop.length+i-w.Stem.length=i+w.Loop.length * j by rw[Nat.mul_comm];omega,Nat.add_mul_mod_self_left,Nat.mod_eq_of_lt hil,List.getElem?_append_right (by omega),show w.Stem.length+i-w.Stem.length=i by omega,hi]at this
  exact(Option.some.inj this).symm
 generalize hX:letM p m (ltW w)=X
 have hseg:=uk p m (ltW w)
 rw[hX]at hseg
 obtain⟨b0,c0⟩:=hseg w.Stem.length 0
 rw[← hSt,Nat.zero_add]at b0
 rw[← hSt]at c0
 have b0:behind m 0 w.Stem=runM m (ltW w) w.Stem.length:=b0
 have c0:lettersM p m 0 w.Stem=seg X 0 w.Stem.length:=c0
 have hj:∀j,behind m (runM m (ltW w) (w.Stem.length+j * w.Loop.length)) w.Loop=runM m (ltW w) (w.Stem.length+(j+1) * w.Loop.length)/\lettersM p m (runM m (ltW w) (w.Stem.length+j * w.Loop.length)) w.Loop=seg X (w.Stem.length+j * w.Loop.length) w.Loop.length:=λj=>by
  obtain⟨h1,h2⟩:=hseg w.Loop.length (w.Stem.length+j * w.Loop.length)
  rw[← hLp j]at h1 h2
  exact⟨by rw[h1,Nat.add_mul,Nat.one_mul,← Nat.add_assoc],h2⟩
 have hb:∀q:Int,0<=q->q<(m.Next.length:Nat)->0<=behind m q w.Loop/\behind m q w.Loop<(m.Next.length:Nat):=λq a b=>uV hm a b w5
 have q0:=nE hm hI w.Stem.length
 have r1:=qN (f:=gO m w) (λT q=>(T,q)) hb (λT q hT hr a0 a1=>by
  unfold gO
  dsimp only
  rw[oa,bE,wi]
  by_cases hq:q∈T
  · simp[hq]
  · rw[app1 (by omega) rfl,mh hm a0 a1 w5]
    simp[hq]) (m.Next.length+1) (2 ^ 64) [] (runM m (ltW w) w.Stem.length) (by simp) (by omega) (by simp) (by simp) q0.1 q0.2
 obtain⟨l1,l2,l3⟩:=pL hb (m.Next.length+1) [] (runM m (ltW w) w.Stem.length) (by simp) (by simp) (by simp) q0.1 q0.2
 obtain⟨l4,l5⟩:=sd (b:=λq=>behind m q w.Loop) (f:=λj=>runM m (ltW w) (w.Stem.length+j * w.Loop.length)) (λj=>(hj j).1.symm) (m.Next.length+1) [] (runM m (ltW w) w.Stem.length) rfl (by show _=runM m (ltW w) (w.Stem.length+0 * w.Loop.length);rw[Nat.zero_mul];rfl)
 generalize lasso (λq=>behind m q w.Loop) (m.Next.length+1) [] (runM m (ltW w) w.Stem.length)=LL at r1 l1 l2 l3 l4 l5
 obtain⟨T,z⟩:=LL
 dsimp only at r1 l1 l2 l3 l4 l5
 have hT:=cW _ T l2 l3
 obtain⟨k,p1,p2,p3⟩:=qe l1
 have hTl:T.length * w.Loop.length<=48 * w.Loop.length:=Nat.mul_le_mul_right _ (by omega)
 have hkl:k * w.Loop.length<=T.length * w.Loop.length:=Nat.mul_le_mul_right _ (by omega)
 have hz1:z=runM m (ltW w) (w.Stem.length+k * w.Loop.length):=by
  rw[l4,nY _ _ 0 k p2,Nat.zero_add]at p3
  exact(Option.some.inj p3).symm
 -- the part behind each state
 have hpt:∀j,j<T.length->∃x,T[j]? =some x/\(0<=x/\x<m.Next.length)/\lettersM p m x w.Loop=seg X (w.Stem.length+j * w.Loop.length) w.Loop.length:=λj hjl=>by
  refine⟨_,by rw[l4];exact nY _ _ 0 j hjl,?_,?_⟩
  · exact nE hm hI _
  · rw[Nat.zero_add];exact(hj j).2
 obtain⟨s,c1,c2⟩:=bX (f:=fQ p m w (T,z) (k:Int)) (λj (s:List Int×List Int)=>s=(seg X 0 (w.Stem.length+min j k * w.Loop.length),seg X (w.Stem.length+k * w.Loop.length) ((j-k) * w.Loop.length))) T.length (s:=(seg X 0 w.Stem.length,[])) (by rw[Nat.zero_min,Nat.zero_mul,Nat.zero_sub,Nat.zero_mul];rfl) (λj s hjl hsj=>by
  obtain⟨x,hx,⟨x0,x1⟩,hxl⟩:=hpt j hjl
  have hjm:j * w.Loop.length<=T.length * w.Loop.length:=Nat.mul_le_mul_right _ (by omega)
  have hjk':(j-k) * w.Loop.length<=j * w.Loop.length:=Nat.mul_le_mul_right _ (by omega)
  subst hsj
  unfold fQ
  dsimp only
  rw[bH,hx,bE,lP hm hs x0 x1 w5 (by omega),hxl,bE]
  have e1:(j+1) * w.Loop.length=j * w.Loop.length+w.Loop.length:=by rw[Nat.add_mul,Nat.one_mul]
  by_cases hjk:j<k
  · rw[decide_eq_true (show(j:Int)<(k:Int) by omega),cond_true,Nat.min_eq_left (show j<=k by omega),Nat.min_eq_left (show j+1<=k by omega),appL (by rw[gu,gu];omega) rfl]
    refine⟨_,rfl,?_⟩
    have:=jS X (w.Stem.length+j * w.Loop.length) w.Loop.length 0
    rw[Nat.zero_add]at this
    rw[this,e1,show j-k=0 by omega,show j+1-k=0 by omega,Nat.add_assoc]
  · rw[decide_eq_false (show ¬(j:Int)<(k:Int) by omega),cond_false,Nat.min_eq_right (show k<=j by omega),Nat.min_eq_right (show k<=j+1 by omega),appL (by rw[gu,gu];omega) rfl]
    refine⟨_,rfl,?_⟩
    have e2:(j-k) * w.Loop.length+k * w.Loop.length=j * w.Loop.length:=by rw[← Nat.add_mul,Nat.sub_add_cancel (by omega)]
    rw[show w.Stem.length+j * w.Loop.length=w.Stem.length+k * w.Loop.length+(j-k) * w.Loop.length by omega,jS,show j+1-k=j-k+1 by omega,Nat.add_mul (j-k),Nat.one_mul])
 rw[Nat.min_eq_right (show k<=T.length by omega)]at c2
 have hin:∀xs:List Int,xs.length<=600->xs.all (inR (pw p.In))=true->gG p xs=some true:=λxs h1 h2=>by
  unfold gG jd
  rw[decide_eq_true (by omega),cond_true,dm (dI hs).1,bE,bE,gp _ (by omega) (by omega),h2]
  rfl
 have hD:(T.length-k) * w.Loop.length+k * w.Loop.length=T.length * w.Loop.length:=by rw[← Nat.add_mul,Nat.sub_add_cancel (by omega)]
 have hD0:0<(T.length-k) * w.Loop.length:=Nat.mul_pos (by omega) hl0
 have hLl:((w.Loop.length:Int)==0)=false:=by rw[beq_eq_false_iff_ne];omega
 have hXin:∀t,0<=X t/\X t<ltr p:=λt=>by rw[← hX];exact wy hm hs hI t
 refine⟨⟨seg X 0 (w.Stem.length+k * w.Loop.length),seg X (w.Stem.length+k * w.Loop.length) ((T.length-k) * w.Loop.length)⟩,?_,?_,funext λt=>wK hD0 (λt ht=>?_) t⟩
 · unfold la
   rw[lV,hs,hm]
   simp only[Bool.true_and,bE,yJ,cond_false,hin _ w1 w4,hin _ w3 w5,hLl]
   rw[mh hm (by omega) (by omega) w4,b0,bE,r1,bE,bJ]
   dsimp only
   rw[oa,bE,p1,lP hm hs (by omega) (by omega) w4 (by omega),c0,bE]
   show bC (cntM (fQ p m w (T,z) (k:Int)) T.length 0 (seg X 0 w.Stem.length,[])) _=_
   rw[c1,c2,bE,bJ]
   dsimp only
   rw[gu,gu,decide_eq_false (by omega),cond_false,decide_eq_false (by omega)]
   rfl
 · unfold wordOk
   dsimp only
   rw[gu,gu,decide_eq_true (by omega),decide_eq_true (by omega),decide_eq_true (by omega),List.all_eq_true.2 (tP (P:=λx=>inR (ltr p) x=true) (λt=>cQ.2 (hXin t)) _ _),List.all_eq_true.2 (tP (P:=λx=>inR (ltr p) x=true) (λt=>cQ.2 (hXin t)) _ _)]
   rfl
 · -- the run comes again
   have hIp:∀t,w.Stem.length<=t->ltW w (t+(T.length-k) * w.Loop.length)=ltW w t:=λt ht=>by
    unfold ltW ixW
    rw[if_neg (by omega),if_neg (by omega),show t+(T.length-k) * w.Loop.length-w.Stem.length=t-w.Stem.length+w.Loop.length * (T.length-k) by rw[Nat.mul_comm];omega,Nat.add_mul_mod_self_left]
   have hR:∀i,runM m (ltW w) (w.Stem.length+k * w.Loop.length+i+(T.length-k) * w.Loop.length)=runM m (ltW w) (w.Stem.length+k * w.Loop.length+i):=λi=>by
    induction i with
    | zero=>
     rw[Nat.add_zero,← hz1,l5,show w.Stem.length+k * w.Loop.length+(T.length-k) * w.Loop.length=w.Stem.length+T.length * w.Loop.length by omega]
    | succ i ih=>
     rw[show w.Stem.length+k * w.Loop.length+(i+1)+(T.length-k) * w.Loop.length=w.Stem.length+k * w.Loop.length+i+(T.length-k) * w.Loop.length+1 by omega]
     show tab m.Next (runM m (ltW w) (w.Stem.length+k * w.Loop.length+i+(T.length-k) * w.Loop.length)) (ltW w (w.Stem.length+k * w.Loop.length+i+(T.length-k) * w.Loop.length))=tab m.Next (runM m (ltW w) (w.Stem.length+k * w.Loop.length+i)) (ltW w (w.Stem.length+k * w.Loop.length+i))
     rw[ih,hIp _ (by omega)]
   have:=hR (t-(w.Stem.length+k * w.Loop.length))
   rw[show w.Stem.length+k * w.Loop.length+(t-(w.Stem.length+k * w.Loop.length))=t by omega]at this
   rw[← hX]
   unfold letM
   rw[this,hIp t (by omega)]
end
end Go.Proofs.YtleekpaohfpooaaGreat
set_option linter.unusedVariables false
set_option linter.unusedSimpArgs false
namespace Go.Proofs.YtleekpaohfpooaaGreat
open Go Go.Wk Go.Proofs
theorem n5 (f:Int->Bool) (xs:List Int) (p:Nat):∀n:Nat,cN f xs n<(p:Int)↔∀(j:Nat) x,p<=j->j<n->xs[j]? =some x->f x=false
 | 0=>⟨λ_ j x _ h=>absurd h (Nat.not_lt_zero j),λ_=>by unfold cN;omega⟩
 | n+1=>by
  have ih:=n5 f xs p n
  have sp:∀j,j<n+1->j<n\/j=n:=λj hj=>by omega
  unfold cN
  cases hx:xs[n]? with
  | none=>
   dsimp only
   rw[cond_false,ih]
   exact⟨λh j x h1 h2 h3=>(sp j h2).elim (λh2=>h j x h1 h2 h3) λe=>by(subst e;rw[hx]at h3;cases h3),λh j x h1 h2=>h j x h1 (by omega)⟩
  | some y=>
   dsimp only
   cases hf:f y with
   | true=>
    rw[cond_true]
    refine⟨λh j x h1 h2=>by omega,λh=>Classical.byContradiction λhn=>?_⟩
    rw[h n y (by omega) (by omega) hx]at hf
    cases hf
   | false=>
    rw[cond_false,ih]
    exact⟨λh j x h1 h2 h3=>(sp j h2).elim (λh2=>h j x h1 h2 h3) λe=>by(subst e;rw[hx]at h3;cases h3;exact hf),λh j x h1 h2=>h j x h1 (by omega)⟩
theorem px {f:Int->Bool}{xs:List Int}{j:Nat}:∀{n:Nat},cN f xs n=(j:Int)->∃x,xs[j]? =some x/\f x=true
 | 0,h=>by unfold cN at h;omega
 | n+1,h=>by
  unfold cN at h
  cases hx:xs[n]? with
  | none=>
   rw[hx]at h
   dsimp only at h
   rw[cond_false]at h
   exact px h
  | some y=>
   rw[hx]at h
   dsimp only at h
   cases hf:f y with
   | true=>
    rw[hf,cond_true]at h
    have:n=j:=by omega
    subst this
    exact⟨y,hx,hf⟩
   | false=>
    rw[hf,cond_false]at h
    exact px h
theorem ms (ps:List Pair) (rc:List Int) (v:Int):(jM ps rc v=0/\cN (askI ps v) rc rc.length<0/\cN (cI ps v) rc rc.length<0) \/
 (cN (cI ps v) rc rc.length<cN (askI ps v) rc rc.length/\jM ps rc v=2 * cN (askI ps v) rc rc.length+1)\/(cN (askI ps v) rc rc.length<=cN (cI ps v) rc rc.length/\0<=cN (cI ps v) rc rc.length/\jM ps rc v=2 * cN (cI ps v) rc rc.length+2):=by
 have a:=gY (askI ps v) rc rc.length
 have g:=gY (cI ps v) rc rc.length
 unfold jM
 generalize cN (askI ps v) rc rc.length=x at *
 generalize cN (cI ps v) rc rc.length=y at *
 by_cases h1:x<0 <;> by_cases h2:y<0 <;> by_cases h3:y<x <;> simp[h1,h2,h3] <;> omega
theorem frozen {G:Int->Bool}{xs:List Int}{p:Nat}(h:∀(j:Nat) x,p<=j->xs[j]? =some x->G x=false){j:Nat}(hj:p<=j):(xs.filter G++xs.filter λx=> !G x)[j]? =xs[j]?:=by
 have hd:∀x∈xs.drop p,G x=false:=λx hx=>by
  obtain⟨i,hi⟩:=List.getElem?_of_mem hx
  rw[List.getElem?_drop]at hi
  exact h _ x (by omega) hi
 have h1:(xs.drop p).filter G=[]:=List.filter_eq_nil_iff.2 λx hx=>by rw[hd x hx];simp
 have h2:((xs.drop p).filter λx=> !G x)=xs.drop p:=List.filter_eq_self.2 λx hx=>by rw[hd x hx];rfl
 have e:=List.take_append_drop p xs
 have h3:=ll G (xs.take p)
 have h4:(xs.take p).length<=p:=by rw[yP];omega
 conv=>rw[← e]
 rw[List.filter_append,List.filter_append,h1,h2,List.append_nil,← List.append_assoc,List.getElem?_append_right (by rw[yK];omega),List.getElem?_append_right (by omega),yK,h3]
theorem moved {G:Int->Bool}{xs:List Int}{p:Nat}{i:Int}(hp:xs[p]? =some i) (hi:G i=false):∃p',p<=p'/\(xs.filter G++xs.filter λx=> !G x)[p']? =some i/\(p'=p->∀(j:Nat) x,p<=j->xs[j]? =some x->G x=false):=by
 obtain⟨A,B,e,hA⟩:∃A B,xs=A++i::B/\A.length=p:=by
  obtain⟨hl,hv⟩:=hV.1 hp
  refine⟨xs.take p,xs.drop (p+1),?_,by rw[yP];omega⟩
  have:=List.drop_eq_getElem_cons hl
  rw[hv]at this
  rw[← this,List.take_append_drop]
 subst e
 have h3:=ll G A
 refine⟨p+(B.filter G).length,by omega,?_,λe j x hj hx=>?_⟩
 · rw[List.filter_append,List.filter_append,List.filter_cons_of_neg (by rw[hi];simp),List.filter_cons_of_pos (by rw[hi];rfl),List.getElem?_append_right (by rw[yK];omega),List.getElem?_append_right (by rw[yK];omega),yK]
   rw[show p+(B.filter G).length-((A.filter G).length+(B.filter G).length)-(A.filter λx=> !G x).length=0 by omega];rfl
 · have hB:B.filter G=[]:=List.length_eq_zero_iff.1 (by omega)
   rw[List.getElem?_append_right (by omega)]at hx
   match hq:j-A.length,hx with
   | 0,hx=>cases hx;exact hi
   | q+1,hx=>
    have:=List.filter_eq_nil_iff.1 hB x (yB hx)
    simpa using this
theorem vK {Q:Nat->Prop}:∀{b:Nat},(∃n,Q n)->(∀n,Q n->n<b)->∃n,Q n/\∀m,Q m->m<=n
 | 0,⟨n,hn⟩,hb=>absurd (hb n hn) (Nat.not_lt_zero n)
 | b+1,h,hb=>by
  by_cases hq:Q b
  · exact⟨b,hq,λm hm=>by have:=hb m hm;omega⟩
  · exact vK (b:=b) h λn hn=>by
     have:=hb n hn
     have:n≠b:=λe=>hq (e ▸ hn)
     omega
section
variable {ps:List Pair}{k:Nat}{v:Nat->Int}{rc:Nat->List Int}(hk:∀t,(rc t).length=k) (hn:∀t,rc (t+1)=fg ps (rc t) (v t)){d:Int}(hio:Par.Io λt=>jM ps (rc t) (v t)=d){N:Nat}(hle:∀t,N<=t->jM ps (rc t) (v t)<=d)
include hk hn hio hle
omit hk in
theorem wI (hd:d % 2=1):∃i,i∈rc 0/\(Par.Io λt=>askI ps (v t) i=true)/\¬Par.Io λt=>cI ps (v t) i=true:=by
 obtain⟨a,ha⟩:∃a:Nat,d=2 * (a:Int)+1:=by
  obtain⟨t,_,ht⟩:=hio 0
  have:=gY (askI ps (v t)) (rc t) (rc t).length
  have:=gY (cI ps (v t)) (rc t) (rc t).length
  rcases ms ps (rc t) (v t) with h | h | h
  · omega
  · exact⟨(cN (askI ps (v t)) (rc t) (rc t).length).toNat,by omega⟩
  · omega
 have hg:∀t,N<=t->∀(j:Nat) x,a<=j->(rc t)[j]? =some x->cI ps (v t) x=false:=λt ht j x hj hx=>by
  refine(n5 (cI ps (v t)) (rc t) a (rc t).length).1 ?_ j x hj (hV.1 hx).1 hx
  have:=hle t ht
  rcases ms ps (rc t) (v t) with h | h | h <;> omega
 have hf:∀m,(rc (N+m))[a]? =(rc N)[a]?:=λm=>by
  induction m with
  | zero=>rfl
  | succ m ih=>
   rw[← ih,show N+(m+1)=N+m+1 from rfl,hn]
   exact frozen (hg _ (by omega)) (Nat.le_refl a)
 have hat:∀t,N<=t->jM ps (rc t) (v t)=d->∃x,(rc N)[a]? =some x/\askI ps (v t) x=true:=λt ht e=>by
  obtain⟨x,x1,x2⟩:=px (f:=askI ps (v t)) (xs:=rc t) (j:=a) (n:=(rc t).length) (by rcases ms ps (rc t) (v t) with h | h | h <;> omega)
  refine⟨x,?_,x2⟩
  rw[← x1,← hf (t-N),show N+(t-N)=t by omega]
 obtain⟨t0,h0,e0⟩:=hio N
 obtain⟨i,hi,_⟩:=hat t0 h0 e0
 have hmem:∀t x,x∈rc t->x∈rc 0:=λt=>by
  induction t with
  | zero=>exact λx h=>h
  | succ t ih=>
   intro x hx
   rw[hn]at hx
   unfold fg at hx
   rcases yT.1 hx with h | h <;> exact ih x (List.mem_filter.1 h).1
 refine⟨i,hmem N i (yB hi),λM=>?_,λh=>?_⟩
 · obtain⟨t,t1,t2⟩:=hio (max M N)
   obtain⟨x,x1,x2⟩:=hat t (by omega) t2
   rw[hi]at x1
   cases x1
   exact⟨t,by omega,x2⟩
 · obtain⟨t,t1,t2⟩:=h N
   have:=hg t t1 a i (Nat.le_refl a) (by rw[← hi,← hf (t-N),show N+(t-N)=t by omega])
   rw[this]at t2
   cases t2
theorem uR (hd:d % 2=0){i:Int}(hi:i∈rc 0) (ha:Par.Io λt=>askI ps (v t) i=true):Par.Io λt=>cI ps (v t) i=true:=by
 intro M
 apply Classical.byContradiction
 intro hng
 have hg:∀t,M<=t->cI ps (v t) i=false:=λt ht=>Bool.eq_false_iff.2 λh=>hng ⟨t,ht,h⟩
 have hmem:∀t,i∈rc t:=λt=>by
  induction t with
  | zero=>exact hi
  | succ t ih=>
   rw[hn]
   unfold fg
   rw[yT,List.mem_filter,List.mem_filter]
   cases cI ps (v t) i <;> simp[ih]
 obtain⟨p,⟨t0,h0,hp⟩,hmax⟩:=vK (Q:=λp=>∃t,M<=t/\(rc t)[p]? =some i) (b:=k) (by
  obtain⟨p,hp⟩:=List.getElem?_of_mem (hmem M)
  exact⟨p,M,Nat.le_refl M,hp⟩) (λp ⟨t,_,hp⟩=>by
  have:=(hV.1 hp).1
  rwa [hk]at this)
 have hst:∀m,(rc (t0+m))[p]? =some i:=λm=>by
  induction m with
  | zero=>exact hp
  | succ m ih=>
   obtain⟨p',p1,p2,_⟩:=moved ih (hg (t0+m) (by omega))
   have:(rc (t0+m+1))[p']? =some i:=by rw[hn];exact p2
   have:=hmax p' ⟨_,by omega,this⟩
   have e:p'=p:=by omega
   subst e
   rw[show t0+(m+1)=t0+m+1 from rfl,hn]
   exact p2
 have hlt:∀t,t0<=t->cN (cI ps (v t)) (rc t) (rc t).length<(p:Int):=λt ht=>by
  have e:t0+(t-t0)=t:=by omega
  have h1:=hst (t-t0)
  rw[e]at h1
  obtain⟨p',p1,p2,p3⟩:=moved h1 (hg t (by omega))
  have:=hmax p' ⟨t+1,by omega,by rw[hn];exact p2⟩
  exact(n5 _ _ p _).2 λj x hj _ hx=>p3 (by omega) j x hj hx
 obtain⟨t1,h1,e1⟩:=ha (max t0 N)
 have a1:=hle t1 (by omega)
 have a2:=hlt t1 (by omega)
 have a3:¬cN (askI ps (v t1)) (rc t1) (rc t1).length<(p:Int):=λh=>by
  have h2:=hst (t1-t0)
  rw[show t0+(t1-t0)=t1 by omega]at h2
  have:=(n5 _ _ p _).1 h p i (Nat.le_refl p) (hV.1 h2).1 h2
  rw[this]at e1
  cases e1
 obtain⟨t2,h2,e2⟩:=hio t0
 have a4:=hlt t2 h2
 rcases ms ps (rc t1) (v t1) with h | h | h <;> rcases ms ps (rc t2) (v t2) with h' | h' | h' <;> omega
end
end Go.Proofs.YtleekpaohfpooaaGreat
set_option linter.unusedVariables false
set_option linter.unusedSimpArgs false
namespace Go.Proofs.YtleekpaohfpooaaGreat
open Go Go.Wk Go.Proofs
def recP (P:List Place) (y:Int):List Int:=match idx P y with | some v=>v.Record | none=>[]
theorem sQ {ps:List Pair}{i:Nat}{pr:Pair}(h:ps[i]? =some pr) (v:Int):askI ps v (i:Int)=true↔v∈pr.Ask:=by
 unfold askI
 rw[bH,h]
 simp
theorem qI {ps:List Pair}{i:Nat}{pr:Pair}(h:ps[i]? =some pr) (v:Int):cI ps v (i:Int)=true↔v∈pr.Give:=by
 unfold cI
 rw[bH,h]
 simp
section
variable {d:Det}{n m k:Nat}{A:Arena}{P:List Place}{g:Parity}{W:Int->Prop}{pk:List Int}(h:Cx d n m k A P g W pk){q:Bool}{π:Nat->Int}(hπ:Par.Play (gI g) q (Par.Rg (Xn P.length) (wB W) q) (pkL pk) π) (h0:π 0=0)
include h hπ
theorem Cx.recs (t:Nat):(recP P (π t)).length=d.Pairs.length/\recP P (π (t+1))=fg d.Pairs (recP P (π t)) (atP P (π t))/\(gI g).pri (π t)=jM d.Pairs (recP P (π t)) (atP P (π t)):=by
 obtain⟨⟨hx,_⟩,he,_⟩:=hπ t
 obtain⟨v,hv,_,_⟩:=h.place hx
 have hj:P[(π t).toNat]? =some v:=by rw[← cE hx.1];exact hv
 have hvo:=h.rg.game.inn v (yB hj)
 obtain⟨_,b2,r,ar,b3,_,b5⟩:=h.rg.game.row _ v (hV.1 hj).1 hj
 have e1:recP P (π t)=v.Record:=by unfold recP;rw[hv]
 rw[e1,fW hv]
 refine⟨hvo.rl,?_,?_⟩
 · obtain⟨y0,u,_,e⟩:=b5.to _ ((nR (by rw[cE hx.1];exact b3)).1 he)
   unfold recP
   rw[cE y0,e]
 · show priL g.Prio (π t)=_
   unfold priL
   rw[cE hx.1,b2];rfl
theorem Cx.wins:Par.Wins (gI g) q π:=by
 have l1:=h.len.1
 have ha:=h.sol.ans
 rw[l1]at ha
 refine ha.wins (n:=P.length) (b:=41) (λv hv=>hv) (λv hv=>?_) hπ
 obtain⟨x,hx⟩:=cj (xs:=g.Prio) hv.1 (by rw[l1];exact hv.2)
 have:=(GOk.of h.ok).pri v x hx
 show 0<=priL g.Prio v/\priL g.Prio v<41
 unfold priL
 rw[hx,Option.getD_some]
 omega
include h0
omit hπ in
theorem Cx.rec0:recP P (π 0)=firstR d.Pairs.length:=by
 rw[h0]
 unfold recP
 rw[show(0:Int)=((0:Nat):Int) from rfl,bH,h.rg.game.zero]
theorem Cx.even (hq:q=false){i:Nat}{pr:Pair}(hp:d.Pairs[i]? =some pr):Well pr.Ask pr.Give λt=>atP P (π t):=by
 obtain⟨D,d1,d2,N,d3⟩:=h.wins hπ
 have hr:=h.recs hπ
 intro ha
 refine(gX λt=>qI hp _).1 (uR (rc:=λt=>recP P (π t)) (v:=λt=>atP P (π t)) (λt=>(hr t).1) (λt=>(hr t).2.1) (d:=D) (λN=>?_) (N:=N) (λt ht=>?_) ?_ ?_ ((gX λt=>sQ hp _).2 ha))
 · obtain⟨t,t1,t2⟩:=d2 N
   exact⟨t,t1,(hr t).2.2.symm.trans t2⟩
 · rw[← (hr t).2.2];exact d3 t ht
 · subst hq
   unfold Par.oddP at d1
   have:=of_decide_eq_false d1
   omega
 · show(i:Int)∈recP P (π 0)
   rw[h.rec0 h0]
   exact List.mem_map.2 ⟨i,List.mem_range.2 (hV.1 hp).1,rfl⟩
theorem Cx.odd (hq:q=true):∃(i:Nat) (pr:Pair),d.Pairs[i]? =some pr/\¬Well pr.Ask pr.Give λt=>atP P (π t):=by
 obtain⟨D,d1,d2,N,d3⟩:=h.wins hπ
 have hr:=h.recs hπ
 obtain⟨i,i1,i2,i3⟩:=wI (rc:=λt=>recP P (π t)) (v:=λt=>atP P (π t)) (λt=>(hr t).2.1) (d:=D) (λN=>by
  obtain⟨t,t1,t2⟩:=d2 N
  exact⟨t,t1,(hr t).2.2.symm.trans t2⟩) (N:=N) (λt ht=>by rw[← (hr t).2.2];exact d3 t ht) (by
  subst hq
  exact of_decide_eq_true d1)
 have i1:i∈recP P (π 0):=i1
 rw[h.rec0 h0]at i1
 obtain⟨j,hj,e⟩:=List.mem_map.1 i1
 have e:(j:Int)=i:=e
 subst e
 have hp:d.Pairs[j]? =some (d.Pairs[j]'(List.mem_range.1 hj)):=gs _
 exact⟨j,_,hp,λhw=>i3 ((gX λt=>qI hp _).2 (hw ((gX λt=>sQ hp _).1 i2)))⟩
end
def alt (x y:Nat->Int) (t:Nat):Int:=if t % 2=0 then x (t / 2) else y (t / 2)
theorem ma (x y:Nat->Int) (t:Nat):alt x y (2 * t)=x t:=by
 unfold alt
 rw[if_pos (by omega),show 2 * t / 2=t by omega]
theorem rn (x y:Nat->Int) (t:Nat):alt x y (2 * t+1)=y t:=by
 unfold alt
 rw[if_neg (by omega),show(2 * t+1) / 2=t by omega]
theorem qS (t:Nat):(∃s,t=2 * s)\/∃s,t=2 * s+1:=by
 by_cases h:t % 2=0
 · exact .inl ⟨t / 2,by omega⟩
 · exact .inr ⟨t / 2,by omega⟩
theorem vJ {x y:Nat->Int}{S:Int->Prop}(hy:∀t,¬S (y t)):(Par.Io λt=>S (alt x y t))↔Par.Io λt=>S (x t):=⟨λh N=>by
 obtain⟨t,t1,t2⟩:=h (2 * N)
 rcases qS t with ⟨s,rfl⟩ | ⟨s,rfl⟩
 · rw[ma]at t2
   exact⟨s,by omega,t2⟩
 · rw[rn]at t2
   exact absurd t2 (hy s),λh N=>by
 obtain⟨t,t1,t2⟩:=h N
 exact⟨2 * t,by omega,by show S (alt x y (2 * t));rw[ma];exact t2⟩⟩
theorem vS {x y:Nat->Int}{A G:List Int}{P:List Place}(hA:∀t,atP P (y t)∉A) (hG:∀t,atP P (y t)∉G):(Well A G λt=>atP P (alt x y t))↔Well A G λt=>atP P (x t):=by
 unfold Well
 rw[vJ (S:=λz=>atP P z∈A) hA,vJ (S:=λz=>atP P z∈G) hG]
end Go.Proofs.YtleekpaohfpooaaGreat
set_option linter.unusedVariables false
set_option linter.unusedSimpArgs false
namespace Go.Proofs.YtleekpaohfpooaaGreat
open Go Go.Wk Go.Proofs
theorem vp {d:Det}{m k q i:Nat}{z o:Int}(h:idx (outsL d m k q i z) 0=some o):0<=o/\tab d.Next q (o * m+i)=z:=by
 obtain⟨j,hj,e⟩:=List.mem_map.1 (yB ((bH (outsL d m k q i z) 0).symm.trans h))
 have h1:=(List.mem_filter.1 hj).2
 have e:(j:Int)=o:=e
 subst e
 have h1:=beq_iff_eq.1 h1
 refine⟨by omega,?_⟩
 rw[← h1]
 simp
theorem sY (f:Nat->Int) (F:List Int){i:Nat}:∀{j:Nat},i<j->∃u:Int,(dr f F j).2[i]? =some u/\0<=u/\(dr f F j).1[u.toNat]? =some (f i)
 | j+1,hi=>by
  have hl:=(mQ f F j).2.2
  show ∃u:Int,((dr f F j).2++[dB (addN (dr f F j).1 (f j)) (f j)])[i]? =some u/\0<=u/\(addN (dr f F j).1 (f j))[u.toNat]? =some (f i)
  by_cases e:i=j
  · subst e
    obtain⟨u,u1,u2,u3⟩:=qe (sy (F:=(dr f F i).1) (t:=f i))
    refine⟨_,by rw[List.getElem?_append_right (by omega),hl,Nat.sub_self];rfl,by rw[u1];omega,by rw[u1,yN];exact u3⟩
  · obtain⟨u,u1,u2,u3⟩:=sY f F (show i<j by omega)
    refine⟨u,by rw[List.getElem?_append_left (by omega)];exact u1,u2,?_⟩
    unfold addN
    split
    · exact u3
    · rw[List.getElem?_append_left (hV.1 u3).1];exact u3
section
variable {p:Sig}{d:Det}{n m k:Nat}{A:Arena}{P:List Place}{g:Parity}{W:Int->Prop}{pk:List Int}
theorem um:∀j:Nat,(∀i,i<j->i<(itM d n m k P g pk i).1.length)->(itM d n m k P g pk j).2.1.length=j/\(itM d n m k P g pk j).2.2.length=j/\∀z,z<j->∃x row orow,(itM d n m k P g pk j).1[z]? =some x/\(itM d n m k P g pk j).2.1[z]? =some row/\(itM d n m k P g pk j).2.2[z]? =some orow /\
 ∀i,i<m->(∃u:Int,row[i]? =some u/\0<=u/\(itM d n m k P g pk j).1[u.toNat]? =some (fM pk P (cv g.Arena x) n m (atP P x).toNat i))/\orow[i]? =some (oM d pk P (cv g.Arena x) n m k (atP P x).toNat i)
 | 0,_=>⟨rfl,rfl,λz hz=>absurd hz (Nat.not_lt_zero z)⟩
 | j+1,hj=>by
  obtain⟨h1,h2,h3⟩:=um j λi hi=>hj i (by omega)
  have hlt:=hj j (by omega)
  unfold itM
  generalize itM d n m k P g pk j=s at *
  obtain⟨F,Nx,Ou⟩:=s
  dsimp only at h1 h2 h3 hlt ⊢
  have hx:F[j]? =some F[j]:=gs hlt
  have hgd:F.getD j 0=F[j]:=by rw[List.getD_eq_getElem?_getD,hx];rfl
  rw[hgd]
  generalize F[j]=x at hx
  refine⟨by rw[yK,h1];rfl,by rw[yK,h2];rfl,λz hz=>?_⟩
  by_cases e:z=j
  · subst e
    refine⟨x,_,_,kL _ _ hx m,by rw[List.getElem?_append_right (by omega),h1,Nat.sub_self];rfl,by rw[List.getElem?_append_right (by omega),h2,Nat.sub_self];rfl,λi hi=>⟨sY _ _ hi,?_⟩⟩
    rw[List.getElem?_map,List.getElem?_range hi];rfl
  · obtain⟨y,row,orow,a1,a2,a3,a4⟩:=h3 z (by omega)
    refine⟨y,row,orow,kL _ _ a1 m,by rw[List.getElem?_append_left (by omega)];exact a2,by rw[List.getElem?_append_left (by omega)];exact a3,λi hi=>?_⟩
    obtain⟨⟨u,u1,u2,u3⟩,u4⟩:=a4 i hi
    exact⟨⟨u,u1,u2,kL _ _ u3 m⟩,u4⟩
def xsM (n m:Nat) (P:List Place) (g:Parity) (pk:List Int) (I:Nat->Nat):Nat->Int
 | 0=>0
 | t+1=>fM pk P (cv g.Arena (xsM n m P g pk I t)) n m (atP P (xsM n m P g pk I t)).toNat (I t)
variable (h:Cx d n m k A P g W pk) (h0:wB W 0=false){I:Nat->Nat}(hI:∀t,I t<m)
include h h0 hI
theorem ra:∀t,∃v,idx P (xsM n m P g pk I t)=some v/\v.At<(n:Int)/\wB W (xsM n m P g pk I t)=false
 | 0=>by
  refine⟨⟨0,firstR d.Pairs.length⟩,?_,?_,h0⟩
  · show idx P ((0:Nat):Int)=_
    rw[bH];exact h.rg.game.zero
  · have:=h.n1
    show(0:Int)<_
    omega
 | t+1=>by
  obtain⟨v,v1,v2,v3⟩:=ra t
  obtain⟨q,r,e1,_,e2,_,_,hf⟩:=sF h v1 v2 v3
  obtain⟨_,_,u,_,_,_,_,_,t6,t7,t8,_⟩:=hf (I t) (hI t)
  show ∃v,idx P (fM pk P (cv g.Arena _) n m (atP P _).toNat (I t))=some v/\_/\wB W (fM pk P (cv g.Arena _) n m (atP P _).toNat (I t))=false
  rw[dA e2,fW v1,e1,yN]
  exact⟨u,t6,by rw[t7];exact t8.2.2.2,t8.2.2.1⟩
theorem wq (t:Nat):atP P (xsM n m P g pk I (t+1))=tab d.Next (atP P (xsM n m P g pk I t)) (oM d pk P (cv g.Arena (xsM n m P g pk I t)) n m k (atP P (xsM n m P g pk I t)).toNat (I t) * m+I t)/\0<=atP P (xsM n m P g pk I t)/\atP P (xsM n m P g pk I t)<n/\0<=oM d pk P (cv g.Arena (xsM n m P g pk I t)) n m k (atP P (xsM n m P g pk I t)).toNat (I t)/\oM d pk P (cv g.Arena (xsM n m P g pk I t)) n m k (atP P (xsM n m P g pk I t)).toNat (I t)<k:=by
 obtain⟨v,v1,v2,v3⟩:=ra h h0 hI t
 obtain⟨q,r,e1,hq,e2,_,_,hf⟩:=sF h v1 v2 v3
 obtain⟨_,_,u,_,_,_,_,_,t6,t7,_,t9,t10,t11⟩:=hf (I t) (hI t)
 show atP P (fM pk P (cv g.Arena _) n m (atP P _).toNat (I t))=_/\_
 rw[dA e2,fW v1,e1,yN]
 exact⟨by rw[← t7];exact(vp t9).2.symm,by omega,by omega,t10,t11⟩
theorem vt (hc:∀pr∈d.Pairs,(∀z∈pr.Ask,z<(n:Int))/\∀z∈pr.Give,z<(n:Int)){i:Nat}{pr:Pair}(hp:d.Pairs[i]? =some pr):Well pr.Ask pr.Give λt=>atP P (xsM n m P g pk I t):=by
 have key:∀t,∃y:Int,tgt P (cv g.Arena (xsM n m P g pk I t)) ((n+((atP P (xsM n m P g pk I t)).toNat * m+I t):Nat):Int)=y/\(n:Int)<=atP P y/\Par.Rg (Xn P.length) (wB W) false (xsM n m P g pk I t)/\(gI g).own (xsM n m P g pk I t)=true/\(gI g).E (xsM n m P g pk I t) y/\Par.Rg (Xn P.length) (wB W) false y/\(gI g).E y (xsM n m P g pk I (t+1))/\xsM n m P g pk I (t+1)=pkL pk y:=λt=>by
  obtain⟨v,v1,v2,v3⟩:=ra h h0 hI t
  have hX:Xn P.length (xsM n m P g pk I t):=⟨(ff v1).1,(ff v1).2.1⟩
  obtain⟨hown,q,r,e1,hq,e2,hrow,hhas⟩:=h.state v1 v2
  obtain⟨t1,t2,_⟩:=vH (hhas (I t) (hI t))
  show ∃y:Int,_/\_/\_/\_/\_/\_/\(gI g).E y (fM pk P (cv g.Arena _) n m (atP P _).toNat (I t))/\fM pk P (cv g.Arena _) n m (atP P _).toNat (I t)=pkL pk y
  rw[dA e2,fW v1,e1,yN]
  have hyX:=(hrow _ t1).1
  have hyw:=h.yours hX (by rw[hown,v3];simp) ((nR e2).2 t1) hyX
  obtain⟨hyo,_⟩:=h.mid hyX hq (hI t) t2
  obtain⟨to,hto,_,hte,_⟩:=h.mine hyX (by rw[hyo,hyw,v3])
  refine⟨_,rfl,by rw[t2];omega,⟨hX,v3⟩,hown,(nR e2).2 t1,⟨hyX,hyw.trans v3⟩,?_,rfl⟩
  unfold fM
  rw[oD hto];exact hte
 have hw:=h.even (q:=false) (π:=alt (xsM n m P g pk I) λt=>tgt P (cv g.Arena (xsM n m P g pk I t)) ((n+((atP P (xsM n m P g pk I t)).toNat * m+I t):Nat):Int)) (λt=>by
  rcases qS t with ⟨s,rfl⟩ | ⟨s,rfl⟩
  · obtain⟨y,k1,k2,k3,k4,k5,k6,k7,k8⟩:=key s
    rw[rn,ma,k1]
    exact⟨k3,k5,λe=>absurd (k4.symm.trans e) (by decide)⟩
  · obtain⟨y,k1,k2,k3,k4,k5,k6,k7,k8⟩:=key s
    rw[show 2 * s+1+1=2 * (s+1) by omega,rn,ma,k1]
    exact⟨k6,k7,λ_=>k8⟩) (ma _ _ 0) rfl hp
 obtain⟨c1,c2⟩:=hc pr (yB hp)
 have hy:∀(S:List Int),(∀z∈S,z<(n:Int))->∀t,atP P (tgt P (cv g.Arena (xsM n m P g pk I t)) ((n+((atP P (xsM n m P g pk I t)).toNat * m+I t):Nat):Int))∉S:=λS hS t hm=>by
  obtain⟨y,k1,k2,_⟩:=key t
  rw[k1]at hm
  have:=hS _ hm
  omega
 exact(vS (hy _ c1) (hy _ c2)).1 hw
end
section
variable {p:Sig}{d:Det}{n m k:Nat}{A:Arena}{P:List Place}{g:Parity}{W:Int->Prop}{pk:List Int}(h:Cx d n m k A P g W pk) (h0:wB W 0=false) (hm:pw p.In=(m:Int)) (hk:pw p.Out=(k:Int)){j:Nat}(hj:∀i,i<j->i<(itM d n m k P g pk i).1.length) (hjl:j=(itM d n m k P g pk j).1.length){I:Nat->Int}(hI:∀t,0<=I t/\I t<m)
include h h0 hm hj hjl hI
theorem ya (t:Nat):0<=runM ⟨(itM d n m k P g pk j).2.1,(itM d n m k P g pk j).2.2⟩ I t/\(itM d n m k P g pk j).1[(runM ⟨(itM d n m k P g pk j).2.1,(itM d n m k P g pk j).2.2⟩ I t).toNat]? =some (xsM n m P g pk (λt=>(I t).toNat) t) /\
 letM p ⟨(itM d n m k P g pk j).2.1,(itM d n m k P g pk j).2.2⟩ I t=oM d pk P (cv g.Arena (xsM n m P g pk (λt=>(I t).toNat) t)) n m k (atP P (xsM n m P g pk (λt=>(I t).toNat) t)).toNat (I t).toNat * m+(I t).toNat:=by
 obtain⟨l1,l2,htab⟩:=um j hj
 have hM:=iL h h0 j hj
 have htb:∀(T:List (List Int)) (z:Int) row (i u:Int),0<=z->0<=i->T[z.toNat]? =some row->row[i.toNat]? =some u->tab T z i=u:=λT z row i u _ _ h1 h2=>by
  unfold tab
  rw[List.getD_eq_getElem?_getD,List.getD_eq_getElem?_getD,h1,Option.getD_some,h2,Option.getD_some]
 have main:∀t,0<=runM ⟨(itM d n m k P g pk j).2.1,(itM d n m k P g pk j).2.2⟩ I t/\(itM d n m k P g pk j).1[(runM ⟨(itM d n m k P g pk j).2.1,(itM d n m k P g pk j).2.2⟩ I t).toNat]? =some (xsM n m P g pk (λt=>(I t).toNat) t):=λt=>by
  induction t with
  | zero=>exact⟨Int.le_refl 0,hM.zero⟩
  | succ t ih=>
   obtain⟨s0,s1⟩:=ih
   obtain⟨x,row,orow,a1,a2,a3,a4⟩:=htab _ (by rw[hjl];exact(hV.1 s1).1)
   rw[s1]at a1
   cases a1
   obtain⟨i0,i1⟩:=hI t
   obtain⟨⟨u,u1,u2,u3⟩,_⟩:=a4 (I t).toNat (by omega)
   show 0<=tab (itM d n m k P g pk j).2.1 (runM _ I t) (I t)/\(itM d n m k P g pk j).1[(tab (itM d n m k P g pk j).2.1 (runM _ I t) (I t)).toNat]? =_
   rw[htb _ _ row (I t) u s0 i0 a2 u1]
   exact⟨u2,u3⟩
 obtain⟨s0,s1⟩:=main t
 obtain⟨x,row,orow,a1,a2,a3,a4⟩:=htab _ (by rw[hjl];exact(hV.1 s1).1)
 rw[s1]at a1
 cases a1
 obtain⟨i0,i1⟩:=hI t
 obtain⟨_,u4⟩:=a4 (I t).toNat (by omega)
 refine⟨s0,s1,?_⟩
 unfold letM
 rw[hm]
 show tab (itM d n m k P g pk j).2.2 (runM _ I t) (I t) * (m:Int)+I t=_
 rw[htb _ _ orow (I t) _ s0 i0 a3 u4]
 omega
include hk
theorem vF (hc:∀pr∈d.Pairs,(∀z∈pr.Ask,z<(n:Int))/\∀z∈pr.Give,z<(n:Int)){N:Nat}(hN:ltr p=N){c:Clause}(k1:1<=c.Kind) (k7:c.Kind<=7){i:Nat}{π:Int->Int}(hs:Sm N d c i π):Sat c (letM p ⟨(itM d n m k P g pk j).2.1,(itM d n m k P g pk j).2.2⟩ I):=by
 have hIm:∀t,(I t).toNat<m:=λt=>by have:=hI t;omega
 have hx:=ya (p:=p) h h0 hm hj hjl hI
 have hst:=wq h h0 hIm
 obtain⟨pr,p1,p2⟩:=hs.pair
 have hw:=vt h h0 hIm hc p1
 have hdl:=h.dl
 rw[wX k1 k7]
 have hrun:∀t,mrun c (letM p ⟨(itM d n m k P g pk j).2.1,(itM d n m k P g pk j).2.2⟩ I) t=π (atP P (xsM n m P g pk (λt=>(I t).toNat) t)):=λt=>by
  induction t with
  | zero=>
   obtain⟨v,v1,_⟩:=ra h h0 hIm 0
   have hz:=h.rg.game.zero
   have e:atP P (xsM n m P g pk (λt=>(I t).toNat) 0)=0:=fW (v:=⟨0,firstR d.Pairs.length⟩) (by show idx P ((0:Nat):Int)=_;rw[bH];exact hz)
   rw[e,hs.zero];rfl
  | succ t ih=>
   show mst c (mrun c _ t) _=_
   obtain⟨b1,b2,b3,b4,b5⟩:=hst t
   have hlt:oM d pk P (cv g.Arena (xsM n m P g pk (λt=>(I t).toNat) t)) n m k (atP P (xsM n m P g pk (λt=>(I t).toNat) t)).toNat (I t).toNat * m+(I t).toNat<(N:Int):=by
    rw[← hN]
    unfold ltr
    rw[hm,hk]
    generalize oM d pk P (cv g.Arena (xsM n m P g pk (λt=>(I t).toNat) t)) n m k (atP P (xsM n m P g pk (λt=>(I t).toNat) t)).toNat (I t).toNat=o at b4 b5
    have:=Int.mul_le_mul_of_nonneg_right (show o+1<=k by omega) (show(0:Int)<=m by omega)
    have:=hIm t
    rw[Int.add_mul,Int.one_mul,Int.mul_comm (k:Int)]at *
    omega
   rw[ih,(hx t).2.2,b1]
   exact(hs.step _ _ b2 (by rw[hdl];exact b3) (Int.add_nonneg (Int.mul_nonneg b4 (by omega)) (by omega)) hlt).symm
 refine λha=>(gX λt=>?_).1 (hw ((gX λt=>?_).1 ha))
 · obtain⟨_,b2,b3,_⟩:=hst t
   rw[hrun]
   exact(p2 _ b2 (by rw[hdl];exact b3)).2
 · obtain⟨_,b2,b3,_⟩:=hst t
   rw[hrun]
   exact(p2 _ b2 (by rw[hdl];exact b3)).1.symm
end
end Go.Proofs.YtleekpaohfpooaaGreat
set_option linter.unusedVariables false
set_option linter.unusedSimpArgs false
namespace Go.Proofs.YtleekpaohfpooaaGreat
open Go Go.Wk Go.Proofs
theorem wQ {k:Nat}(hk:k<=2){n:Nat}{u v:Place}(hu:VOk n k u) (hv:VOk n k v) (h:u.At=v.At) (h':u.Record.headD 0=v.Record.headD 0):u=v:=by
 obtain⟨a,r⟩:=u
 obtain⟨b,s⟩:=v
 dsimp only at h h'
 subst h
 have e1:=hu.rl
 have e2:=hv.rl
 have i1:=hu.rin
 have i2:=hv.rin
 have n1:=hu.nd
 have n2:=hv.nd
 dsimp only at e1 e2 i1 i2 n1 n2
 congr 1
 match r,s with
 | [],[]=>rfl
 | [],_::_=>simp at e1 e2;omega
 | _::_,[]=>simp at e1 e2;omega
 | [x],[y]=>simp at h';rw[h']
 | [x],_::_::_=>simp at e1 e2;omega
 | _::_::_,[y]=>simp at e1 e2;omega
 | [x,x'],[y,y']=>
  simp at h' n1 n2
  have a1:=i1 x (by simp)
  have a2:=i1 x' (by simp)
  have a3:=i2 y' (by simp)
  have:x'=y':=by omega
  rw[h',this]
 | [_,_],_::_::_::_=>simp at e1 e2;omega
 | _::_::_::_,_=>simp at e1;omega
theorem pN {k:Nat}(hk:k<=2){n c:Nat}{P:List Place}(hn:P.Nodup) (hv:∀v∈P,VOk n k v/\v.At<c):P.length<=2 * c:=by
 have h1:(P.map λv=>2 * v.At+v.Record.headD 0).Nodup:=by
  unfold List.Nodup
  rw[List.pairwise_map]
  refine List.Pairwise.imp_of_mem (λ{u v} hu hv' hne e=>hne ?_) hn
  have a1:=(hv u hu).1
  have a2:=(hv v hv').1
  have hd:∀w:Place,VOk n k w->0<=w.Record.headD 0/\w.Record.headD 0<2:=λw hw=>by
   have i1:=hw.rin
   cases hr:w.Record with
   | nil=>simp
   | cons x r=>
    have:=i1 x (by rw[hr];simp)
    simp
    omega
  have b1:=hd u a1
  have b2:=hd v a2
  exact wQ hk a1 a2 (by omega) (by omega)
 have:=cW (2 * c) _ h1 λx hx=>by
  obtain⟨v,hm,e⟩:=List.mem_map.1 hx
  obtain⟨a,b⟩:=hv v hm
  have:=a.a0
  have i1:=a.rin
  subst e
  cases hr:v.Record with
  | nil=>simp;omega
  | cons y r=>
   have:=i1 y (by rw[hr];simp)
   simp
   omega
 rwa [yW]at this
theorem small {p:Sig}(hs:sigOk p=true){cs:List Clause}(hb:∀c∈cs,Clause.bd c) (hc:∀c∈cs,cm p c=true) (h2:cs.length<=2):∃d A n m k P g W pk,cZ p cs=some (d,true)/\cV p cs=some (d,true)/\Stp2 p cs d A/\Stp3 p cs d n m k A P g W pk/\n<=16/\d.Pairs.length<=2:=by
 have hcl:eY p cs=true:=by
  unfold eY
  rw[decide_eq_true (by omega),List.all_eq_true.2 hc];rfl
 rcases setup p hb with ⟨_,_,h3⟩ | ⟨d,A,h1,h2',S2,hR⟩
 · have:=h3 hs hcl
   omega
 · obtain⟨N,hN,hPR⟩:=S2.prd
   have hsz:=hPR.size
   have hpl:=hPR.len
   have h16:4 ^ cs.length<=4 ^ 2:=Nat.pow_le_pow_right (by omega) h2
   obtain⟨m,hm,hal⟩:=S2.al
   have hpw:=iZ p.In
   have hmul:d.Next.length * m<=16 * 4:=Nat.mul_le_mul (by omega) (by omega)
   rcases hR with ⟨_,_,P,p1,p2,p3⟩ | ⟨n,m,k,P,g,W,pk,S⟩
   · have:=pN (k:=d.Pairs.length) (by omega) (c:=A.Owner.length) p2 λv hv=>⟨p3 v hv,(p3 v hv).a1⟩
     omega
   · refine⟨d,A,n,m,k,P,g,W,pk,h1,h2',S2,S,?_,by omega⟩
     have:=S.cx.dl
     omega
theorem sZ {d:Det}{n m k:Nat}{A:Arena}{P:List Place}{g:Parity}{W:Int->Prop}{pk:List Int}(h:Cx d n m k A P g W pk) (hn:n<=16) (hk:d.Pairs.length<=2){F:List Int}(hF:Names P.length F) (ha:∀x∈F,atP P x<(n:Int)):F.length<=32:=by
 have hP:∀x∈F,∃v,P[x.toNat]? =some v/\idx P x=some v/\0<=x:=λx hx=>by
  obtain⟨h0,h1⟩:=hF.2 x hx
  obtain⟨v,hv,_⟩:=iI (xs:=P) h0 h1
  exact⟨v,by rw[← cE h0];exact hv,hv,h0⟩
 have h1:(F.map λx=>P.getD x.toNat ⟨0,[]⟩).Nodup:=by
  unfold List.Nodup
  rw[List.pairwise_map]
  refine List.Pairwise.imp_of_mem (λ{x y} hx hy hne e=>hne ?_) hF.1
  obtain⟨u,u1,_,u0⟩:=hP x hx
  obtain⟨v,v1,_,v0⟩:=hP y hy
  rw[List.getD_eq_getElem?_getD,List.getD_eq_getElem?_getD,u1,v1,Option.getD_some,Option.getD_some]at e
  subst e
  obtain⟨a1,a2⟩:=hV.1 u1
  obtain⟨b1,b2⟩:=hV.1 v1
  have:=(List.getElem_inj h.rg.game.nod).1 (a2.trans b2.symm)
  omega
 have:=pN hk (c:=n) h1 λv hv=>by
  obtain⟨x,hx,e⟩:=List.mem_map.1 hv
  obtain⟨u,u1,u2,_⟩:=hP x hx
  rw[List.getD_eq_getElem?_getD,u1,Option.getD_some]at e
  subst e
  have:=ha x hx
  rw[fW u2]at this
  exact⟨h.rg.game.inn u (yB u1),this⟩
 rw[yW]at this
 omega
end Go.Proofs.YtleekpaohfpooaaGreat
set_option linter.unusedVariables false
set_option linter.unusedSimpArgs false
namespace Go.Proofs.YtleekpaohfpooaaGreat
open Go Go.Wk Go.Proofs
theorem vY {n:Nat}(h:n<=256):nL (n:Int)=some (firstR n):=by
 unfold nL
 obtain⟨o,w1,w2⟩:=cB (f:=ka (n:Int)) (λj (s:List Int×Int)=>s=(firstR j,(j:Int))/\j<=n) (λ_=>False) (λs=>s.1=firstR n) n (λj s ⟨e,hj⟩=>by
  subst e
  unfold ka
  dsimp only
  by_cases hlt:j<n
  · rw[decide_eq_true (show(j:Int)<(n:Int) by omega),cond_true,decide_eq_true (show(n:Int)<=256 by omega),bE,cond_true,app1 (by unfold firstR;rw[yW,List.length_range];omega) rfl,bE,wr' (by omega) (by omega)]
    exact⟨_,rfl,hlt,by unfold firstR;rw[List.range_succ,List.map_append];rfl,by omega⟩
  · have:j=n:=by omega
    subst this
    rw[decide_eq_false (show ¬((j:Nat):Int)<(j:Int) by omega),cond_false,bE,cond_false]
    exact⟨_,rfl,rfl⟩) (2 ^ 64) 0 ([],0) (by omega) ⟨rfl,Nat.zero_le _⟩ (by omega)
 match o,w2 with
 | .inr s,e=>rw[w1,bE,bJ,e]
theorem mK {n i:Nat}(h:i<n):(firstR n)[i]? =some (i:Int):=by
 unfold firstR
 rw[List.getElem?_map,List.getElem?_range h];rfl
theorem vD {n:Nat}(h:n<=256):mt (n:Int) (firstR n)=some (sh n true):=by
 unfold mt
 have hl:(firstR n).length=n:=by unfold firstR;rw[yW,List.length_range]
 rw[di (by omega) rfl,bE,hl]
 obtain⟨s,h1,h2,h3⟩:=bX (f:=jg (firstR n)) (λj (s:List Bool)=>s.length=n/\∀i:Nat,i<j->s[i]? =some true) n (s:=sh n false) ⟨by simp,λi hi=>absurd hi (Nat.not_lt_zero i)⟩ (λj s hj ⟨a1,a2⟩=>by
  have hx:s[j]? =some (s[j]'(by omega)):=gs (by omega)
  unfold jg
  rw[bH,mK hj,bE,bH,hx,bE,sD (by omega),bE]
  refine⟨_,rfl,by rw[List.length_set];exact a1,λi hi=>?_⟩
  by_cases e:i=j
  · subst e
    exact List.getElem?_set_self (by omega)
  · rw[List.getElem?_set_ne (by omega)]
    exact a2 i (by omega))
 rw[h1,bE,bJ]
 congr 1
 apply List.ext_getElem?
 intro i
 rw[List.getElem?_replicate]
 by_cases hi:i<n
 · rw[if_pos hi];exact h3 i hi
 · rw[if_neg hi];exact yS (by omega)
theorem sV {g:Parity}(hp:cA g=true){W:Int->Prop}(hW:ir g=some (wonL g.Prio.length W)):∃even odd,mS g=some (firstR g.Prio.length)/\nJ g (firstR g.Prio.length)=some (even,odd)/\dH even 0=some (!(wB W 0)):=by
 have h:=GOk.of hp
 have hn:=h.n256
 obtain⟨h1,h2,h3,h4,h5⟩:=dp hp
 have hN1:1<=g.Prio.length:=by omega
 have hl:(firstR g.Prio.length).length=g.Prio.length:=by unfold firstR;rw[yW,List.length_range]
 obtain⟨P,p1,p2⟩:=rX h
 have hall:mS g=some (firstR g.Prio.length):=by
  unfold mS
  rw[vY hn];rfl
 -- the set of the winner
 have hN:=lE h (mN hp)
 have hg:=ul h P
 have hA:In (sh g.Prio.length true)=λv:Int=>0<=v/\v<g.Prio.length:=funext λv=>propext (tz v)
 have hwf:=h.wfS p2 (k:=sh g.Prio.length (-1)) (by simp)
 obtain⟨R,r1,r2,_⟩:=vU hwf h.pri g.Prio.length (sh g.Prio.length true) (2 ^ 64) (by simp) (by rw[hA,hg];exact hN) (by have:=pG (sh g.Prio.length true);simp at this;exact this) (by omega)
 have hR:wonL g.Prio.length W=R.map λb=>b2i (!b):=by
  unfold ir at hW
  rw[p1,bE,wd h,bE,r1,bE]at hW
  obtain⟨s,k1,k2⟩:=bX (f:=kb R) (λj s=>s=(R.take j).map λb=>b2i (!b)) R.length (s:=[]) rfl (λj s hj e=>by
   subst e
   have hx:R[j]? =some R[j]:=gs hj
   generalize R[j]=b at hx
   have hf:fL b=some (b2i b):=by cases b <;> rfl
   unfold kb
   rw[bH,hx,bE,hf,bE,mU,app1 (by rw[yW,yP];omega) rfl]
   exact⟨_,rfl,by rw[List.take_add_one,hx,List.map_append];rfl⟩)
  rw[k1,k2,bE,bJ,List.take_length]at hW
  exact(Option.some.inj hW).symm
 have hR0:R[0]? =some (!(wB W 0)):=by
  have e:=jP (W:=W) (n:=g.Prio.length) (v:=0) ⟨Int.le_refl _,by omega⟩
  have hx:R[0]? =some (R[0]'(by omega)):=gs (by omega)
  rw[hR,show(0:Int)=((0:Nat):Int) from rfl,bH,List.getElem?_map,hx]at e
  rw[hx]
  generalize R[0]'(by omega)=b at e
  have e:=Option.some.inj e
  revert e
  show b2i (!b)=b2i (wB W 0)->_
  cases b <;> cases wB W 0 <;> first | (intro _;rfl) | (intro e;exact absurd e (by decide))
 have hset:jr (firstR g.Prio.length) (g.Prio.length:Int)=some true:=by
  unfold jr
  rw[dc,jO (by omega) (by omega) (by omega),fd.2 ⟨λx hx=>by
   obtain⟨i,hi⟩:=List.getElem?_of_mem hx
   have hlt:=(hV.1 hi).1
   rw[mK (by omega)]at hi
   cases hi
   omega,by
   unfold firstR
   refine List.pairwise_map.2 (List.Pairwise.imp (λ{a b} hab=>?_) List.pairwise_lt_range)
   show(a:Int)<(b:Int)
   omega⟩,decide_eq_true (show(0:Int)<=(g.Prio.length:Int) by omega),decide_eq_true (show(g.Prio.length:Int)<=256 by omega)]
  rfl
 have hdeg:∀v:Nat,v<g.Prio.length->∃z,gv ⟨g.Arena.Owner,g.Prio,g.Arena.Next,P,sh g.Prio.length (-1)⟩ (sh g.Prio.length true) (v:Int)=some z/\(z==0)=false:=λv hv=>by
  have hd:=sH hwf (B:=sh g.Prio.length true) (by simp) (v:=(v:Int)) (by omega) (by omega)
  refine⟨_,hd,?_⟩
  have hr:g.Arena.Next[v]? =some (g.Arena.Next[v]'(by omega)):=gs (by omega)
  obtain⟨q1,_,q3⟩:=h5 v _ hr
  generalize g.Arena.Next[v]'(by omega)=row at hr q1 q3
  have hrow:rowS (⟨g.Arena.Owner,g.Prio,g.Arena.Next,P,sh g.Prio.length (-1)⟩:l7Game) (v:Int)=row.filter (okE (-1)):=o8 (by rw[bH];exact hr) (by rw[bH,List.getElem?_replicate,if_pos hv])
  rw[beq_eq_false_iff_ne]
  intro e
  have e0:lf (rowS (⟨g.Arena.Owner,g.Prio,g.Arena.Next,P,sh g.Prio.length (-1)⟩:l7Game) (v:Int)) (In (sh g.Prio.length true)) (λ_=>False)=0:=by omega
  rw[rz,hrow]at e0
  have hx:row[0]? =some (row[0]'(by omega)):=gs (by omega)
  have hm:=yB hx
  obtain⟨u0,u1⟩:=(fd.1 q3).1 _ hm
  exact e0 _ (List.mem_filter.2 ⟨hm,rfl⟩) ((tz _).2 ⟨u0,by omega⟩)
 obtain⟨s,w1,w2,w3,w4⟩:=bX (f:=jZ (firstR g.Prio.length) R) (λj (s:List Int×List Int)=>s.1.length<=j/\s.2.length<=j/\∀z,z∈s.1↔∃i:Nat,i<j/\z=(i:Int)/\R[i]? =some true) g.Prio.length (s:=([],[])) ⟨by simp,by simp,λz=>by simp⟩ (λj s hj ⟨a1,a2,a3⟩=>by
  have hx:R[j]? =some (R[j]'(by omega)):=gs (by omega)
  generalize R[j]'(by omega)=b at hx
  unfold jZ
  rw[bH,mK hj,bE,bH,hx,bE]
  cases b with
  | true=>
   rw[cond_true,bE,app1 (by omega) rfl]
   refine⟨_,rfl,by dsimp only;rw[yK];simp;omega,by dsimp only;omega,λz=>?_⟩
   dsimp only
   rw[yT,yM,a3]
   constructor
   · rintro(⟨i,h1,h2⟩ | e)
     · exact⟨i,by omega,h2⟩
     · exact⟨j,by omega,e,hx⟩
   · rintro⟨i,h1,h2,h3⟩
     by_cases e:i=j
     · subst e;exact .inr h2
     · exact .inl ⟨i,by omega,h2,h3⟩
  | false=>
   rw[cond_false,bE,app1 (by omega) rfl]
   refine⟨_,rfl,by dsimp only;omega,by dsimp only;rw[yK];simp;omega,λz=>?_⟩
   dsimp only
   rw[a3]
   constructor
   · rintro⟨i,h1,h2⟩
     exact⟨i,by omega,h2⟩
   · rintro⟨i,h1,h2,h3⟩
     by_cases e:i=j
     · subst e;rw[hx]at h3;cases h3
     · exact⟨i,by omega,h2,h3⟩)
 refine⟨s.1,s.2,hall,?_,?_⟩
 · unfold nJ
   rw[kv,hp,bE,yJ,cond_false,hset,bE,bE,yJ,cond_false,p1,bE,vD hn,bE]
   rw[cP (f:=jF (firstR g.Prio.length) ⟨g.Arena.Owner,g.Prio,g.Arena.Next,P,sh g.Prio.length (-1)⟩ (sh g.Prio.length true)) (r:=([],[])) (λ_=>true) (xs:=firstR g.Prio.length) rfl (λi v hv=>by
    have hlt:=(hV.1 hv).1
    rw[hl]at hlt
    have hv':=hv
    rw[mK hlt]at hv'
    cases hv'
    obtain⟨z,z1,z2⟩:=hdeg i hlt
    unfold jF
    rw[bH,hv,bE,z1,bE,z2];rfl)]
   rw[show((firstR g.Prio.length).all λ_=>true)=true from by simp,if_pos rfl,bE,bJ,r1,bE,hl,w1,bE,bJ]
 · rw[pv]
   congr 1
   rw[Bool.eq_iff_iff,decide_eq_true_eq,w4]
   constructor
   · rintro⟨i,h1,h2,h3⟩
     have:i=0:=by omega
     subst this
     rw[hR0]at h3
     exact Option.some.inj h3
   · intro e
     exact⟨0,by omega,rfl,by rw[hR0,e]⟩
section
variable {p:Sig}{cs:List Clause}{d:Det}{A:Arena}(h1:cZ p cs=some (d,true)) (h2:cV p cs=some (d,true)) (S2:Stp2 p cs d A)
include h1 S2
omit h2
theorem yd:dT p cs=bC (kI p d 0) λx=>some (x==0):=by
 unfold dT ju
 rw[h1,bE,cond_true,ki S2.sig S2.pb,S2.det,bE,yJ,cond_false]
 cases kI p d 0 <;> rfl
omit h1
include h2
theorem xR:dQ p cs=bC (dy A d.Pairs 0) λx30=>bif (!x30.2.2) then some false else bC (er x30.1) λx37=>bC (idx x37 0) λx38=>some (x38==0):=by
 have hiV:jl A 0=some true:=by
  unfold jl mf
  have:=S2.a1
  rw[decide_eq_true (Int.le_refl 0),cond_true,bE,decide_eq_true (by omega)];rfl
 unfold dQ jt iM mf
 rw[h2,bE,cond_true,ns,S2.sig,bE,yJ,cond_false,oN S2.sig S2.pb,S2.det,S2.iC]
 simp only[nM,S2.aok,bE,yJ,cond_false,mo S2.pb,S2.pok,hiV]
 cases dy A d.Pairs 0 with
 | none=>rfl
 | some x=>
  simp only[bE]
  cases !x.2.2 with
  | true=>rfl
  | false=>
   simp only[cond_false]
   cases er x.1 with
   | none=>rfl
   | some y=>
    simp only[bE]
    cases idx y 0 <;> rfl
end
section
variable {p:Sig}{cs:List Clause}{d:Det}{n m k:Nat}{A:Arena}{P:List Place}{g:Parity}{W:Int->Prop}{pk:List Int}(S2:Stp2 p cs d A) (S:Stp3 p cs d n m k A P g W pk)
include S2 S
theorem tE (h1:cZ p cs=some (d,true)):dT p cs=some (!(wB W 0)):=by
 obtain⟨even,odd,e1,e2,e3⟩:=sV S.cx.ok S.sW
 rw[yd h1 S2]
 unfold kI
 rw[S2.sC,bE,S.sR,bE]
 simp only[bE,yJ,cond_false,e1,e2,e3]
 cases wB W 0 <;> rfl
theorem tM (h2:cV p cs=some (d,true)):dQ p cs=some (!(wB W 0)):=by
 rw[xR h2 S2,S.iR,bE]
 simp only[yJ,cond_false,S.iW,S.won,bE]
 cases wB W 0 <;> rfl
end
end Go.Proofs.YtleekpaohfpooaaGreat
set_option linter.unusedVariables false
set_option linter.unusedSimpArgs false
namespace Go.Proofs.YtleekpaohfpooaaGreat
open Go Go.Wk Go.Proofs
theorem wY {p:Sig}(hs:sigOk p=true){cs:List Clause}(hb:∀c∈cs,Clause.bd c) (hc:∀c∈cs,cm p c=true) (hl:cs.length<=3){w:Word}(hw:wordOk w (ltr p)=true):∃r,gb p cs w=some r/\((r= -1/\∀c∈cs,Sat c (ltW w))\/∃(i:Nat) (c:Clause),r=(i:Int)/\cs[i]? =some c/\¬Sat c (ltW w)):=by
 have hlt:=lU hs
 have hwo:iU p w=some true:=by
  unfold iU
  rw[dP,hs,dV hs]
  simp only[bE,cond_true]
  rw[n7 w (by omega) (by omega),hw];rfl
 obtain⟨o,w1,w2⟩:=pB (f:=ej p cs w) (λj (_:Unit)=>∀(i:Nat) c,i<j->cs[i]? =some c->Sat c (ltW w)) (λr=>∃(i:Nat) (c:Clause),r=(i:Int)/\cs[i]? =some c/\¬Sat c (ltW w)) (λ_=>False) cs.length (s:=()) (λi c hi=>absurd hi (Nat.not_lt_zero i)) (λj s hj hI=>by
  have hcj:cs[j]? =some cs[j]:=gs hj
  generalize cs[j]=c at hcj
  have hm:=yB hcj
  obtain⟨b,b1,b2⟩:=yo hs (hb c hm) (hc c hm) hw
  unfold ej
  rw[bH,hcj,bE,b1,bE]
  cases b with
  | true=>
   refine⟨_,rfl,λi x hi hx=>?_⟩
   by_cases e:i=j
   · subst e
     rw[hcj]at hx
     cases hx
     exact b2.1 rfl
   · exact hI i x (by omega) hx
  | false=>exact⟨_,rfl,j,c,rfl,hcj,λh=>by have:=b2.2 h;cases this⟩)
 unfold gb
 rw[mg hs hb,decide_eq_true (by omega),List.all_eq_true.2 hc,hwo]
 simp only[bE,Bool.and_self,yJ,cond_false]
 rw[w1,bE]
 match o,w2 with
 | .inl r,w2=>exact⟨r,rfl,.inr w2⟩
 | .inr s,.inl w2=>
  refine⟨-1,rfl,.inl ⟨rfl,λc hm=>?_⟩⟩
  obtain⟨i,hi⟩:=List.getElem?_of_mem hm
  exact w2 i c (hV.1 hi).1 hi
end Go.Proofs.YtleekpaohfpooaaGreat
set_option linter.unusedVariables false
set_option linter.unusedSimpArgs false
namespace Go.Proofs.YtleekpaohfpooaaGreat
open Go Go.Wk Go.Proofs
theorem va {p:Sig}{d:Det}(hd:detOk p d=true):∀pr∈d.Pairs,(∀z∈pr.Ask,z<(d.Next.length:Int))/\∀z∈pr.Give,z<(d.Next.length:Int):=λx hx=>by
 unfold detOk at hd
 simp only[yH]at hd
 have hp:=hd.1.2
 unfold pairsOk at hp
 rw[yH,List.all_eq_true]at hp
 have:=hp.2 x hx
 unfold pairOk at this
 rw[yH]at this
 exact⟨λz hz=>((St.of this.1).rng z hz).2,λz hz=>((St.of this.2).rng z hz).2⟩
structure Good (p:Sig) (cs:List Clause) (M:Machine):Prop where
 ok:machOk p M=true
 le:M.Next.length<=32
 sat:∀I:Nat->Int,(∀t,0<=I t/\I t<pw p.In)->∀c∈cs,Sat c (letM p M I)
theorem vb {p:Sig}{cs:List Clause}(hc:∀c∈cs,cm p c=true){d:Det}{n m k:Nat}{A:Arena}{P:List Place}{g:Parity}{W:Int->Prop}{pk:List Int}(S2:Stp2 p cs d A) (S:Stp3 p cs d n m k A P g W pk) (hn:n<=16) (hp:d.Pairs.length<=2) (h0:wB W 0=false){j:Nat}(hj:∀i,i<j->i<(itM d n m k P g pk i).1.length) (hjl:j=(itM d n m k P g pk j).1.length):Good p cs ⟨(itM d n m k P g pk j).2.1,(itM d n m k P g pk j).2.2⟩:=by
 have hM:=iL S.cx h0 j hj
 have h32:=sZ S.cx hn hp hM.nm λx hx=>(hM.all x hx).2
 have e1:=hM.nxl
 have e2:=hM.oul
 have hF1:=(hV.1 hM.zero).1
 obtain⟨N,hN,hPR⟩:=S2.prd
 refine⟨uJ (by dsimp only;omega) (by dsimp only;omega) (by dsimp only;omega) (λrow hr=>?_) (λrow hr=>?_),by dsimp only;omega,λI hI c hcm=>?_⟩
 · obtain⟨a,b⟩:=hM.nxr row hr
   exact⟨by rw[a,S.im],λx hx=>by have:=b x hx;dsimp only;omega⟩
 · obtain⟨a,b⟩:=hM.our row hr
   rw[S.ok]
   exact⟨by rw[a,S.im],b⟩
 · obtain⟨i,hi⟩:=List.getElem?_of_mem hcm
   obtain⟨π,hs⟩:=hPR.sm hN hc i c hi
   obtain⟨k1,k7⟩:=lM (hc c hcm)
   have hdp:=va S2.det
   rw[S.cx.dl]at hdp
   exact vF S.cx h0 S.im S.ok hj hjl (λt=>by have:=hI t;rw[S.im]at this;exact this) hdp hN k1 k7 hs
theorem su {p:Sig}(hs:sigOk p=true){cs:List Clause}(hb:∀c∈cs,Clause.bd c) (hc:∀c∈cs,cm p c=true) (h2:cs.length<=2):∃b,dT p cs=some b/\dQ p cs=some b/\((b=false/\gC p cs=some (⟨[],[]⟩,false))\/(b=true/\∃M,gC p cs=some (M,true)/\Good p cs M)):=by
 obtain⟨d,A,n,m,k,P,g,W,pk,h1,h1',S2,S,hn,hp⟩:=small hs hb hc h2
 refine⟨!(wB W 0),tE S2 S h1,tM S2 S h1',?_⟩
 unfold gC
 simp only[h1',S.iC,S.iR,S.iW,S.won,S.iS,bE,yJ,cond_false]
 cases hw:wB W 0 with
 | true=>exact .inl ⟨rfl,rfl⟩
 | false=>
  obtain⟨j,j1,j2,w1⟩:=xT (wn:=wonL g.Prio.length W) hs S2.det S2.pb S.cx S.im S.ok hw
  have hM:=iL S.cx hw j j1
  have h32:=sZ S.cx hn hp hM.nm λx hx=>(hM.all x hx).2
  refine .inr ⟨rfl,_,?_,vb hc S2 S hn hp hw j1 j2⟩
  show(bif (b2i false !=0) then _ else _)=_
  rw[show(b2i false !=0)=false from rfl,cond_false,w1,bE,bJ]
  unfold stM
  dsimp only
  rw[decide_eq_false (by omega)];rfl
end Go.Proofs.YtleekpaohfpooaaGreat
set_option linter.unusedVariables false
set_option linter.unusedSimpArgs false
namespace Go.Proofs.YtleekpaohfpooaaGreat
open Go Go.Wk Go.Proofs
theorem yx {z:Int}(h0:0<=z) (h1:z<18446744073709551616):IntKind.u64.wrap z=z:=by
 simp[IntKind.wrap,IntKind.bits,IntKind.signed]
 omega
theorem kV {d:dice}(hb:∀x∈d.b,U8 x) (hl:d.b.length<=4096) (i0:0<=d.i) (i1:d.i<=4096){k:Int}(hk:1<=k):∃x i h,cJ d k=some (x,i,h)/\0<=x/\x<k/\0<=i/\i<=4096:=by
 unfold cJ
 have hnz:nz k=some ():=by unfold nz;rw[if_neg (by omega)]
 generalize hA:(BitVec.ofInt (IntKind.bits IntKind.u64) (Int.fdiv (IntKind.u64.wrap (IntKind.u64.wrap (d.h * 6364136223846793005)+1442695040888963407)) (2 ^ (min (Int.toNat 33) (IntKind.bits IntKind.u64)))))=A
 have hy:(BitVec.toNat (A &&& BitVec.ofInt (IntKind.bits IntKind.u64) 16777215))<=16777215:=by
  rw[BitVec.toNat_and]
  refine Nat.le_trans Nat.and_le_right ?_
  decide
 generalize(BitVec.toNat (A &&& BitVec.ofInt (IntKind.bits IntKind.u64) 16777215))=y at hy
 rw[yx (by omega) (by omega),wr' (z:=(y:Int)) (by omega) (by omega)]
 by_cases hlt:d.i<(d.b.length:Int)
 · obtain⟨x,hx,hm⟩:=iI (xs:=d.b) i0 hlt
   have hx8:=hb x hm
   unfold U8 at hx8
   simp only[hlt,decide_true,cond_true,hx,bE,hnz]
   rw[wr' (z:=x) (by omega) (by omega),wr' (z:=(y:Int)+x) (by omega) (by omega),wr' (by omega) (by omega),Int.tmod_eq_emod_of_nonneg (by omega)]
   exact⟨_,_,_,rfl,Int.emod_nonneg _ (by omega),Int.emod_lt_of_pos _ (by omega),by omega,by omega⟩
 · simp only[hlt,decide_false,cond_false,bE,hnz]
   rw[Int.tmod_eq_emod_of_nonneg (by omega)]
   exact⟨_,_,_,rfl,Int.emod_nonneg _ (by omega),Int.emod_lt_of_pos _ (by omega),by omega,by omega⟩
theorem wD (b:List Int) (k:Int):∃h,qg b k=some ⟨b,0,h⟩:=by
 unfold qg
 obtain⟨s,h1,_⟩:=bX (f:=kW b) (λ_ _=>True) b.length (s:=(IntKind.u64.wrap ((IntKind.u64.wrap (k * 7919))+(IntKind.u64.wrap (b.length:Int))))) trivial (λj s hj _=>by
  have hx:b[j]? =some b[j]:=by simp[hj]
  unfold kW
  rw[bH,hx]
  exact⟨_,rfl,trivial⟩)
 rw[h1]
 exact⟨s,rfl⟩
end Go.Proofs.YtleekpaohfpooaaGreat
set_option linter.unusedVariables false
set_option linter.unusedSimpArgs false
namespace Go.Proofs.YtleekpaohfpooaaGreat
open Go Go.Wk Go.Proofs
theorem St.up {q:Nat}{A:List Int}(h:St q A):St (q+1) A:=⟨h.asc,λx hx=>by have:=h.rng x hx;omega⟩
theorem St.push {q:Nat}{A:List Int}(h:St q A):St (q+1) (A++[(q:Int)]):=⟨List.pairwise_append.2 ⟨h.asc,by simp,λa ha b hb=>by
 rw[yM]at hb
 have:=h.rng a ha
 omega⟩,λx hx=>by
 rcases yT.1 hx with hx | hx
 · have:=h.rng x hx;omega
 · rw[yM.1 hx];omega⟩
section
variable {b:List Int}(hb:∀x∈b,U8 x) (hl:b.length<=4096)
include hb hl
theorem set5 {i h:Int}(i0:0<=i) (i1:i<=4096):∃A i' h',mM ⟨b,i,h⟩ 4=some (A,i',h')/\St 4 A/\0<=i'/\i'<=4096:=by
 unfold mM
 obtain⟨s,h1,h2,h3,h4⟩:=bX (f:=jL ⟨b,i,h⟩) (λq (t:List Int×Int×Int)=>St q t.1/\0<=t.2.1/\t.2.1<=4096) 4 (s:=([],i,h)) ⟨⟨by simp,by simp⟩,i0,i1⟩ (λq t hq ⟨e1,e2,e3⟩=>by
  obtain⟨A,ti,th⟩:=t
  have hle:=e1.len
  obtain⟨u,i4,h4,f1,f2,f3,f4,f5⟩:=kV (d:=⟨b,ti,th⟩) hb hl e2 e3 (k:=2) (by omega)
  unfold jL
  dsimp only at hle ⊢
  rw[f1,bE]
  cases u==0 with
  | true=>
   rw[cond_true,app1 (by omega) rfl,bE]
   exact⟨_,rfl,e1.push,f4,f5⟩
  | false=>exact⟨_,rfl,e1.up,f4,f5⟩)
 have e4:Int.toNat (4-0)=4:=rfl
 have hr:rng (4:Int)=some ():=rfl
 rw[hr,bE,e4,h1]
 exact⟨_,_,_,rfl,h2,h3,h4⟩
theorem wE {i h:Int}(i0:0<=i) (i1:i<=4096):∃c i' h',j0 ⟨b,i,h⟩=some (c,i',h')/\(c.A.length<=4/\c.B.length<=4/\cm ⟨1,1⟩ c=true)/\0<=i'/\i'<=4096:=by
 obtain⟨y,i3,h3,c1,c2,c3,c4,c5⟩:=kV (d:=⟨b,i,h⟩) hb hl i0 i1 (k:=7) (by omega)
 obtain⟨A,i4,h4,d1,d2,d3,d4⟩:=set5 hb hl (h:=h3) c4 c5
 obtain⟨B,i5,h5,e1,e2,e3,e4⟩:=set5 hb hl (h:=h4) d3 d4
 have hy:IntKind.i64.wrap (1+y)=1+y:=wr' (by omega) (by omega)
 have hl4:ltr (⟨1,1⟩:Sig)=4:=by decide
 have key:∀B':List Int,St 4 B'->(B'=[]\/1+y=2\/1+y=3\/1+y=7)->cm ⟨1,1⟩ ⟨1+y,A,B'⟩=true:=λB' hB h=>by
  unfold cm
  dsimp only
  rw[hl4,decide_eq_true (by omega),decide_eq_true (by omega),d2.ok (by omega),hB.ok (by omega)]
  rcases h with e | e | e | e
  · rw[e];simp
  · rw[e];rfl
  · rw[e];rfl
  · rw[e];rfl
 unfold j0
 rw[c1,bE,d1,bE,hy]
 dsimp only
 rw[e1]
 cases k2:(1+y==2) with
 | true=>exact⟨_,_,_,rfl,⟨d2.len,e2.len,key B e2 (.inr (.inl (by simpa using k2)))⟩,e3,e4⟩
 | false=>
  cases k3:(1+y==3) with
  | true=>exact⟨_,_,_,rfl,⟨d2.len,e2.len,key B e2 (.inr (.inr (.inl (by simpa using k3))))⟩,e3,e4⟩
  | false=>
   cases k7:(1+y==7) with
   | true=>exact⟨_,_,_,rfl,⟨d2.len,e2.len,key B e2 (.inr (.inr (.inr (by simpa using k7))))⟩,e3,e4⟩
   | false=>exact⟨_,_,_,rfl,⟨d2.len,Nat.zero_le _,key [] ⟨by simp,by simp⟩ (.inl rfl)⟩,d3,d4⟩
theorem wb {i h:Int}(i0:0<=i) (i1:i<=4096):∃cs i' h',iT ⟨b,i,h⟩ 2=some (cs,i',h')/\(∀c∈cs,c.A.length<=4/\c.B.length<=4/\cm ⟨1,1⟩ c=true)/\cs.length<=2/\0<=i'/\i'<=4096:=by
 obtain⟨x,i2,h2,a1,a2,a3,a4,a5⟩:=kV (d:=⟨b,i,h⟩) hb hl i0 i1 (k:=3) (by omega)
 obtain⟨o,w1,w2⟩:=cB (f:=fx ⟨b,i,h⟩) (λj (s:List Clause×Int×Int×Int)=>s.2.1=x-(j:Int)/\(j:Int)<=x/\0<=s.2.2.1/\s.2.2.1<=4096/\s.1.length=j/\∀c∈s.1,c.A.length<=4/\c.B.length<=4/\cm ⟨1,1⟩ c=true) (λ_=>False)
  (λs=>(∀c∈s.1,c.A.length<=4/\c.B.length<=4/\cm ⟨1,1⟩ c=true)/\s.1.length<=2/\0<=s.2.2.1/\s.2.2.1<=4096) 3 (λj s ⟨b1,b2,b3,b4,b5,b6⟩=>by
  obtain⟨cs,k,i',h'⟩:=s
  dsimp only at b1 b3 b4 b5 b6
  unfold fx
  dsimp only
  by_cases hlt:0<k
  · obtain⟨c,i3,h3,c1,c2,c3,c4⟩:=wE hb hl (h:=h') b3 b4
    rw[decide_eq_true hlt,cond_true,c1,bE,app1 (by omega) rfl,bE,wr' (by omega) (by omega)]
    refine⟨_,rfl,by omega,by dsimp only;omega,by omega,c3,c4,by dsimp only;rw[yK,b5];rfl,λu hu=>?_⟩
    rcases yT.1 hu with hu | hu
    · exact b6 u hu
    · rw[yM.1 hu];exact c2
  · rw[decide_eq_false hlt,cond_false]
    exact⟨_,rfl,b6,by dsimp only;omega,b3,b4⟩) (2 ^ 64) 0 ([],x,i2,h2) (by omega) ⟨by dsimp only;omega,by omega,a4,a5,rfl,by simp⟩ (by omega)
 unfold iT
 rw[wr' (by omega) (by omega),show(2:Int)+1=3 from rfl,a1,bE]
 dsimp only
 match o,w2 with
 | .inr s,w2=>
  rw[w1,bE,bJ]
  exact⟨_,_,_,rfl,w2⟩
theorem xp {f:Int×Int×Int×List Int->Option ((Word×Int×Int)⊕((Int×Int×Int×List Int)⊕(Int×Int×Int×List Int)))}(hf:∀s,f s=(bif decide (0<s.1) then bC (cJ ⟨b,s.2.1,s.2.2.1⟩ 2) λx=>bC (appS 8 s.2.2.2 [x.1]) λy=>some (.inr (.inr (IntKind.i64.wrap (s.1-1),x.2.1,x.2.2,y))) else some (.inr (.inl (s.1,s.2.1,s.2.2.1,s.2.2.2)))))
 {k i h:Int} (k0:0<=k) (k4:k<=4) (i0:0<=i) (i1:i<=4096):∃s:Int×Int×Int×List Int,ca f (2 ^ 64) (k,i,h,[])=some (.inr s)/\(s.2.2.2.length:Int)=k/\(∀x∈s.2.2.2,0<=x/\x<2)/\0<=s.2.1/\s.2.1<=4096:=by
 obtain⟨o,w1,w2⟩:=cB (f:=f) (λj s=>s.1=k-(j:Int)/\(j:Int)<=k/\0<=s.2.1/\s.2.1<=4096/\s.2.2.2.length=j/\∀x∈s.2.2.2,0<=x/\x<2) (λ_=>False) (λs=>(s.2.2.2.length:Int)=k/\(∀x∈s.2.2.2,0<=x/\x<2)/\0<=s.2.1/\s.2.1<=4096) 5 (λj s ⟨b1,b2,b3,b4,b5,b6⟩=>by
  rw[hf]
  by_cases hlt:0<s.1
  · obtain⟨x,i3,h3,c1,c2,c3,c4,c5⟩:=kV (d:=⟨b,s.2.1,s.2.2.1⟩) hb hl b3 b4 (k:=2) (by omega)
    rw[decide_eq_true hlt,cond_true,c1,bE,app1 (by omega) rfl,bE,wr' (by omega) (by omega)]
    refine⟨_,rfl,by omega,by dsimp only;omega,by omega,c4,c5,by dsimp only;rw[yK,b5];rfl,λu hu=>?_⟩
    rcases yT.1 hu with hu | hu
    · exact b6 u hu
    · rw[yM.1 hu];exact⟨c2,c3⟩
  · rw[decide_eq_false hlt,cond_false]
    exact⟨_,rfl,by dsimp only;omega,b6,b3,b4⟩) (2 ^ 64) 0 (k,i,h,[]) (by omega) ⟨by dsimp only;omega,by omega,i0,i1,rfl,by simp⟩ (by omega)
 match o,w2 with
 | .inr s,w2=>exact⟨s,w1,w2⟩
theorem yr {i h:Int}(i0:0<=i) (i1:i<=4096):∃w i' h',lS ⟨b,i,h⟩ 2=some (w,i',h')/\(wordOk w 2=true/\w.Stem.length<=4/\w.Loop.length<=4)/\0<=i'/\i'<=4096:=by
 obtain⟨x,i2,h2,a1,a2,a3,a4,a5⟩:=kV (d:=⟨b,i,h⟩) hb hl i0 i1 (k:=4) (by omega)
 obtain⟨s,s1,s2,s3,s4,s5⟩:=xp hb hl (f:=ku ⟨b,i,h⟩ 2) (λs=>rfl) a2 (by omega) a4 a5 (h:=h2)
 obtain⟨y,i3,h3,b1,b2,b3,b4,b5⟩:=kV (d:=⟨b,s.2.1,s.2.2.1⟩) hb hl s4 s5 (k:=4) (by omega)
 obtain⟨t,t1,t2,t3,t4,t5⟩:=xp hb hl (f:=ko ⟨b,i,h⟩ 2) (λs=>rfl) (show 0<=1+y by omega) (by omega) b4 b5 (h:=h3)
 unfold lS
 rw[a1,bE]
 dsimp only
 rw[s1,bE,bJ,b1,bE]
 dsimp only
 rw[wr' (by omega) (by omega),t1,bE,bJ]
 refine⟨_,_,_,rfl,⟨?_,by dsimp only;omega,by dsimp only;omega⟩,t4,t5⟩
 unfold wordOk
 dsimp only
 rw[decide_eq_true (by omega),decide_eq_true (by omega),decide_eq_true (by omega),List.all_eq_true.2 λx hx=>cQ.2 (s3 x hx),List.all_eq_true.2 λx hx=>cQ.2 (t3 x hx)]
 rfl
end
end Go.Proofs.YtleekpaohfpooaaGreat
set_option linter.unusedVariables false
set_option linter.unusedSimpArgs false
namespace Go.Proofs.YtleekpaohfpooaaGreat
open Go Go.Wk Go.Proofs
theorem FnKept_law {p0:List Int}(ok0:okS U8 p0):nD p0=some true:=by
 unfold nD ug
 rw[bE]
 by_cases hbig:4096<(p0.length:Int)
 · rw[decide_eq_true hbig,cond_true]
 · rw[decide_eq_false hbig,cond_false]
   have hb:=ok0.1
   have hl:p0.length<=4096:=by omega
   have hs:sigOk ⟨1,1⟩=true:=by decide
   have hpw:pw (⟨1,1⟩:Sig).In=2:=by decide
   obtain⟨h,hr⟩:=wD p0 602
   rw[hr,bE]
   obtain⟨cs,i1,h1,a1,a2,a3,a4,a5⟩:=wb hb hl (i:=0) (h:=h) (by omega) (by omega)
   rw[a1,bE]
   dsimp only
   have hbd:∀c∈cs,Clause.bd c:=λc hc=>by
    obtain⟨x,y,_⟩:=a2 c hc
    exact⟨trivial,⟨by omega,λ_ _=>trivial⟩,⟨by omega,λ_ _=>trivial⟩⟩
   have hck:∀c∈cs,cm ⟨1,1⟩ c=true:=λc hc=>(a2 c hc).2.2
   obtain⟨b,b1,b2,b3⟩:=su hs hbd hck a3
   rw[b1,b2]
   rcases b3 with ⟨e,b3⟩ | ⟨e,M,b3,hG⟩
   · subst e
     rw[b3];rfl
   · subst e
     rw[b3]
     simp only[bE]
     obtain⟨s,c1,c2⟩:=bX (f:=iP ⟨p0,0,h⟩ (cs,i1,h1) (M,true)) (λ_ (s:Int×Int)=>0<=s.1/\s.1<=4096) 6 (s:=(i1,h1)) ⟨a4,a5⟩ (λj s _ ⟨s1,s2⟩=>by
      obtain⟨w,i2,h2,d1,⟨d2,d3,d4⟩,d5,d6⟩:=yr hb hl (h:=s.2) s1 s2
      have hw:wordOk w (pw (⟨1,1⟩:Sig).In)=true:=by rw[hpw];exact d2
      have hl0:0<w.Loop.length:=by have:=(iV d2).2.1;omega
      obtain⟨r,r1,r2,r3⟩:=vl hG.ok hs hw (by omega)
      obtain⟨z,z1,z2⟩:=wY hs hbd hck (by omega) r2
      have hsat:=hG.sat (ltW w) λt=>by
       rcases yT.1 (pl hl0 t) with h | h
       · exact cQ.1 (List.all_eq_true.1 (iV hw).2.2.2.1 _ h)
       · exact cQ.1 (List.all_eq_true.1 (iV hw).2.2.2.2 _ h)
      rcases z2 with ⟨z2,_⟩ | ⟨i,c,_,z3,z4⟩
      · unfold iP mJ
        dsimp only
        rw[d1,bE,r1,bE,z1,z2]
        exact⟨_,rfl,d5,d6⟩
      · rw[r3]at z4
        exact absurd (hsat c (yB z3)) z4)
     have e6:Int.toNat (6-0)=6:=rfl
     have hM:fH ⟨1,1⟩ M=some true:=by rw[lV,hs,hG.ok];rfl
     rw[e6,c1,hM];rfl
end Go.Proofs.YtleekpaohfpooaaGreat
