/- Who wins where: both sides find the same. -/
import Derived.Test.YtmiilifclnanlaaGreatL1EE
import Derived.Test.YtmiilifclnanlaaGreatL0EE
set_option linter.unusedVariables false
set_option linter.unusedSimpArgs false
namespace Go.Proofs.YtmiilifclnanlaaGreat
open Go Go.Wk Go.Proofs
structure GOk (g:Parity) (n:Nat):Prop where
 n256:n≤256
 lo:g.Arena.Owner.length=n
 lp:g.Prio.length=n
 ln:g.Arena.Next.length=n
 ow:∀v o,idx g.Arena.Owner v=some o→o=0∨o=1
 row:∀v r,idx g.Arena.Next v=some r→r.length≤16∧r.Nodup∧∀u∈r,0≤u∧u<n
 pri:PriOk g.Prio
theorem mem_idx {α:Type}{xs:List α}{v:Int}{x:α}(h:idx xs v=some x):x∈xs:=by
 obtain⟨h0,_⟩:=idx_rng h
 rw[idx_int h0]at h
 exact List.mem_of_getElem? h
theorem GOk.of {g:Parity}(h:parityOk g=true):GOk g g.Prio.length:=by
 obtain⟨h1,h2,h3,h4,h5⟩:=parityOk_spec h
 obtain⟨hO,hP⟩:=parity_get h
 refine⟨by omega,by omega,rfl,by omega,fun v o ho=>?_,fun v r hr=>?_,fun v q hq=>?_⟩
 · have:=inR_iff.1 (hO o (mem_idx ho))
   omega
 · obtain⟨v0,_⟩:=idx_rng hr
   obtain⟨i,hi⟩:=ex_nat v0
   subst hi
   rw[idx_nat]at hr
   obtain⟨r1,r2,r3⟩:=h5 i r hr
   obtain⟨r4,r5⟩:=setOk_iff.1 r3
   exact⟨r2,asc_nodup r5,fun u hu=>by have:=r4 u hu;omega⟩
 · have:=inR_iff.1 (hP q (mem_idx hq))
   omega
section
variable {g:Parity}{n:Nat}(h:GOk g n)
include h
theorem i_preds_ok:∃P,i_predsOf g.Arena=some P∧PrevT g.Arena.Next n n P:=by
 have hn:=h.n256
 unfold i_predsOf
 rw[h.lo,mkS_nat (by omega) rfl,Option.bind_some,h.ln]
 obtain⟨s,h1,h2⟩:=cnt_inv (f:=i_predsOf_b0 g.Arena) (fun j (s:List (List Int))=>PrevT g.Arena.Next n j s) n (s:=List.replicate n []) PrevT.zero (fun j s hj hs=>by
  have hr:g.Arena.Next[j]? =some (g.Arena.Next[j]'(by rw[h.ln];exact hj)):=List.getElem?_eq_getElem (by rw[h.ln];exact hj)
  generalize g.Arena.Next[j]'(by rw[h.ln];exact hj)=row at hr
  obtain⟨r1,r2,r3⟩:=h.row (j:Int) row (by rw[idx_nat];exact hr)
  unfold i_predsOf_b0
  rw[idx_nat,hr,Option.bind_some]
  obtain⟨t,k1,k2⟩:=cnt_inv (f:=i_predsOf_b2 (j:Int) row) (fun i (t:List (List Int))=>PrevM g.Arena.Next n j row i t) row.length (s:=s) (hs.first row) (fun i t hi ht=>by
   have hu:row[i]? =some row[i]:=List.getElem?_eq_getElem hi
   generalize row[i]=u at hu
   obtain⟨u0,u1⟩:=r3 u (List.mem_of_getElem? hu)
   obtain⟨old,m1,m2,t',m3,m4⟩:=ht.step hu r2 u0 u1
   unfold i_predsOf_b2
   rw[idx_nat,hu,Option.bind_some,m1,Option.bind_some,app1 (by omega) rfl,Option.bind_some,Option.bind_some,m3,Option.bind_some]
   exact⟨_,rfl,m4⟩)
  rw[k1,Option.bind_some,aft_inr]
  exact⟨_,rfl,k2.last hr⟩)
 rw[h1,Option.bind_some,aft_inr]
 exact⟨s,rfl,h2⟩
theorem s_of_ok:∃P,s_l7Of g=some ⟨g.Arena.Owner,g.Prio,g.Arena.Next,P,List.replicate n (-1)⟩∧PrevT g.Arena.Next n n P:=by
 have hn:=h.n256
 unfold s_l7Of
 rw[h.lp,mkS_nat (by omega) rfl,Option.bind_some,mkS_nat (by omega) rfl,Option.bind_some]
 obtain⟨s,h1,h2,h3,h4⟩:=cnt_inv (f:=s_l7Of_b0 g) (fun j (s:List (List Int)×List Int)=>PrevT g.Arena.Next n j s.1∧s.2.length=n∧∀i:Nat,i<j→idx s.2 (i:Int)=some (-1)) n (s:=(List.replicate n [],List.replicate n 0)) ⟨PrevT.zero,by simp,fun i hi=>absurd hi (Nat.not_lt_zero i)⟩ (fun j s hj ⟨hs,q1,q2⟩=>by
  obtain⟨s,k⟩:=s
  dsimp only at hs q1 q2
  have hr:g.Arena.Next[j]? =some (g.Arena.Next[j]'(by rw[h.ln];exact hj)):=List.getElem?_eq_getElem (by rw[h.ln];exact hj)
  generalize g.Arena.Next[j]'(by rw[h.ln];exact hj)=row at hr
  obtain⟨r1,r2,r3⟩:=h.row (j:Int) row (by rw[idx_nat];exact hr)
  obtain⟨old,ho⟩:=idx_some (xs:=k) (i:=(j:Int)) (by omega) (by omega)
  obtain⟨k',hk,hkl⟩:=setI_some (xs:=k) (i:=(j:Int)) (-1) (by omega) (by omega)
  unfold s_l7Of_b0
  dsimp only
  rw[ho,Option.bind_some,hk,Option.bind_some]
  obtain⟨o,w1,w2⟩:=while_out (f:=s_l7Of_b2 g (j:Int)) (fun i (t:Int×List (List Int))=>t.1=(i:Int)∧i≤row.length∧PrevM g.Arena.Next n j row i t.2) (fun _=>False) (fun t=>PrevM g.Arena.Next n j row row.length t.2) row.length (fun i t ⟨a1,a2,a3⟩=>by
   obtain⟨i',t⟩:=t
   dsimp only at a1 a3
   subst a1
   unfold s_l7Of_b2
   dsimp only
   rw[idx_nat,hr,Option.bind_some]
   by_cases hlt:i<row.length
   · have hlt':(i:Int)<(row.length:Int):=by omega
     have hu:row[i]? =some row[i]:=List.getElem?_eq_getElem hlt
     generalize row[i]=u at hu
     obtain⟨u0,u1⟩:=r3 u (List.mem_of_getElem? hu)
     obtain⟨old,m1,m2,t',m3,m4⟩:=a3.step hu r2 u0 u1
     have hw:IntKind.i64.wrap ((i:Int)+1)=((i+1:Nat):Int):=by rw[wr' (by omega) (by omega)];omega
     simp only[hlt',decide_true,cond_true,Option.bind_some,idx_nat,hu,m1,app1 (show old.length≤10000000000 by omega) (show Nat.ble 8 1024=true from rfl),m3,hw]
     exact⟨_,rfl,hlt,rfl,by omega,m4⟩
   · have hlt':¬(i:Int)<(row.length:Int):=by omega
     simp only[hlt',decide_false,cond_false]
     have e:i=row.length:=by omega
     subst e
     exact⟨_,rfl,a3⟩) (2 ^ 64) 0 (0,s) (by omega) ⟨rfl,by omega,hs.first row⟩ (by omega)
  match o,w2 with
  | .inr t,w2=>
   rw[w1,Option.bind_some,aft_inr]
   refine⟨_,rfl,w2.last hr,by dsimp only;omega,fun i hi=>?_⟩
   dsimp only
   rw[idx_setI hk]
   by_cases e:(i:Int)=(j:Int)
   · rw[if_pos e]
   · rw[if_neg e];exact q2 i (by omega))
 rw[h1,Option.bind_some,aft_inr]
 have e:s.2=List.replicate n (-1):=by
  apply List.ext_getElem?
  intro i
  rw[List.getElem?_replicate]
  by_cases hi:i<n
  · rw[if_pos hi,← idx_nat];exact h4 i hi
  · rw[if_neg hi];exact List.getElem?_eq_none (by omega)
 refine⟨s.1,?_,h2⟩
 rw[e]
theorem GOk.wfI {P:List (List Int)}(hP:PrevT g.Arena.Next n n P):WfI ⟨g,P⟩ n:=by
 refine⟨h.n256,h.lo,h.lp,h.ln,hP.1,h.ow,h.row,fun u Q hQ=>?_⟩
 obtain⟨u0,u1⟩:=idx_rng hQ
 have u1:u<(P.length:Int):=u1
 have hQ:idx P u=some Q:=hQ
 rw[hP.2 u u0 (by have:=hP.1;omega)]at hQ
 cases hQ
 have:=prevL_len g.Arena.Next u n
 have:=h.n256
 exact⟨prevL_nodup _ _ _,by omega,fun v=>mem_prevL h.ln⟩
theorem GOk.wfS {P:List (List Int)}(hP:PrevT g.Arena.Next n n P){k:List Int}(hk:k.length=n):WfS ⟨g.Arena.Owner,g.Prio,g.Arena.Next,P,k⟩ n:=by
 refine⟨h.n256,h.lo,h.lp,h.ln,hk,hP.1,h.ow,h.row,fun u Q hQ=>?_⟩
 obtain⟨u0,u1⟩:=idx_rng hQ
 have u1:u<(P.length:Int):=u1
 have hQ:idx P u=some Q:=hQ
 rw[hP.2 u u0 (by have:=hP.1;omega)]at hQ
 cases hQ
 have:=prevL_len g.Arena.Next u n
 have:=h.n256
 exact⟨prevL_nodup _ _ _,by omega,fun v=>mem_prevL h.ln⟩
theorem gS_none (P:List (List Int)):gS ⟨g.Arena.Owner,g.Prio,g.Arena.Next,P,List.replicate n (-1)⟩=gI g:=by
 unfold gS gI
 congr 1
 funext v
 unfold rowS rowI
 dsimp only
 cases hr:idx g.Arena.Next v with
 | none=>rfl
 | some r=>
  obtain⟨v0,v1⟩:=idx_rng hr
  have:idx (List.replicate n (-1:Int)) v=some (-1):=by
   rw[idx_int v0,List.getElem?_replicate,if_pos (by have:=h.ln;omega)]
  rw[this]
  show r.filter (okE (-1))=r
  rw[List.filter_eq_self]
  intro a _
  rfl
theorem all_eq:s_l7All (g.Prio.length:Int)=some (List.replicate n true):=by
 have hn:=h.n256
 unfold s_l7All
 have hr:rng (n:Int)=some ()∨True:= .inr trivial
 rw[h.lp,mkS_nat (by omega) rfl,Option.bind_some,show Int.toNat ((n:Int)-0)=n from by omega]
 obtain⟨s,h1,h2,h3⟩:=fill (f:=s_l7All_b0) (fun _=>true) n (s0:=List.replicate n false) (by simp) (fun j s hj hs=>by
  unfold s_l7All_b0
  rfl)
 rw[h1]
 have e:s=List.replicate n true:=by
  apply List.ext_getElem?
  intro i
  rw[List.getElem?_replicate]
  by_cases hi:i<n
  · rw[if_pos hi,← idx_nat];exact h3 i hi
  · rw[if_neg hi];exact List.getElem?_eq_none (by omega)
 subst e
 have:rng (n:Int)=some ():=by
  unfold rng
  first
   | rfl
   | rw[if_pos (by omega)]
 rw[this];rfl
omit h in
theorem In_all (v:Int):In (List.replicate n true) v↔0≤v∧v<n:=by
 constructor
 · intro h
   have:=idx_rng h
   simpa using this
 · rintro⟨h0,h1⟩
   unfold In
   rw[idx_int h0,List.getElem?_replicate,if_pos (by omega)]
theorem markI_eq {L:List Int}(hL:∀v∈L,0≤v∧v<n):∃R,i_markOf g.Arena L=some R∧R.length=n∧∀v,In R v↔v∈L:=by
 have hn:=h.n256
 unfold i_markOf
 rw[h.lo,mkS_nat (by omega) rfl,Option.bind_some]
 obtain⟨s,h1,h2,h3⟩:=cnt_inv (f:=i_markOf_b0 L) (fun j (s:List Bool)=>s.length=n∧∀v:Int,0≤v→v<n→idx s v=some (decide (v∈L.take j))) L.length (s:=List.replicate n false) ⟨by simp,fun v v0 v1=>by
  rw[idx_int v0,List.getElem?_replicate,if_pos (by omega)];simp⟩ (fun j s hj ⟨q1,q2⟩=>by
  have hu:L[j]? =some L[j]:=List.getElem?_eq_getElem hj
  generalize L[j]=u at hu
  obtain⟨u0,u1⟩:=hL u (List.mem_of_getElem? hu)
  obtain⟨s',hs,hl⟩:=setI_some (xs:=s) (i:=u) true u0 (by omega)
  unfold i_markOf_b0
  rw[idx_nat,hu,Option.bind_some,q2 u u0 u1,Option.bind_some,hs,Option.bind_some]
  refine⟨_,rfl,by omega,fun v v0 v1=>?_⟩
  rw[idx_setI hs,take_one hu]
  by_cases e:v=u
  · rw[if_pos e];simp[e]
  · rw[if_neg e,q2 v v0 v1];simp[e])
 rw[h1,Option.bind_some,aft_inr]
 refine⟨s,rfl,h2,fun v=>?_⟩
 rw[List.take_length]at h3
 constructor
 · intro hi
   have hi':=In_of h2 hi
   unfold In at hi
   rw[h3 v hi'.1 hi'.2]at hi
   simpa using hi
 · intro hm
   obtain⟨v0,v1⟩:=hL v hm
   unfold In
   rw[h3 v v0 v1]
   simpa using hm
theorem wonIn_eq {L:List Int}(hL:∀v∈L,0≤v∧v<n) (hN:Par.NoDead (gI g) (fun v=>v∈L)):∃E O W,i_wonIn g L=some (E,O)∧Par.Sol (gI g) (fun v=>v∈L) false W∧(∀v,v∈E↔W v)∧(∀v,v∈O↔v∈L∧¬W v)∧E.length≤n∧O.length≤n:=by
 have hn:=h.n256
 obtain⟨P,p1,p2⟩:=i_preds_ok h
 obtain⟨M,m1,m2,m3⟩:=markI_eq h hL
 have eM:In M=fun v=>v∈L:=funext fun v=>propext (m3 v)
 obtain⟨R,q,r1,r2,r3⟩:=i_won (h.wfI p2) h.pri n M (2 ^ 64) m2 (by rw[eM];exact hN) (by have:=cnt_le M;omega) (by omega)
 obtain⟨X,x1,x2,x3⟩:=without_eq m2 r2 hn
 have lR:=marksL_len R R.length
 have lX:=marksL_len X X.length
 have r3:Par.Sol (gI g) (In M) q (In R):=r3
 unfold i_wonIn
 rw[p1,Option.bind_some,m1,Option.bind_some,r1,Option.bind_some]
 dsimp only
 rw[b2i_beq0,listI_eq (by omega),x1]
 simp only[Option.bind_some]
 rw[listI_eq (by omega)]
 simp only[Option.bind_some]
 have hsol:=r3.asP false
 rw[eM]at hsol
 have hsub:=r3.sub
 cases q with
 | false=>
  simp only[Bool.not_false,cond_true]
  refine⟨_,_,_,rfl,hsol,fun v=>?_,fun v=>?_,by omega,by omega⟩
  · rw[mem_marksL]
    exact⟨fun hv=>⟨(m3 v).1 (hsub v hv),fun _=>rfl,fun _=>hv⟩,fun hv=>hv.2.2 rfl⟩
  · rw[mem_marksL,x3,m3]
    exact⟨fun hv=>⟨hv.1,fun hw=>hv.2 (hw.2.2 rfl)⟩,fun hv=>⟨hv.1,fun hr=>hv.2 ⟨hv.1,fun _=>rfl,fun _=>hr⟩⟩⟩
 | true=>
  simp only[Bool.not_true,cond_false]
  refine⟨_,_,_,rfl,hsol,fun v=>?_,fun v=>?_,by omega,by omega⟩
  · rw[mem_marksL,x3,m3]
    exact⟨fun hv=>⟨hv.1,fun hr=>absurd hr hv.2,fun hf=>absurd hf (by decide)⟩,fun hv=>⟨hv.1,fun hr=>absurd (hv.2.1 hr) (by decide)⟩⟩
  · rw[mem_marksL]
    constructor
    · intro hr
      exact⟨(m3 v).1 (hsub v hr),fun hw=>absurd (hw.2.1 hr) (by decide)⟩
    · rintro⟨hl,hw⟩
      apply Classical.byContradiction
      intro hr
      exact hw ⟨hl,fun h'=>absurd h' hr,fun hf=>absurd hf (by decide)⟩
end
end Go.Proofs.YtmiilifclnanlaaGreat
set_option linter.unusedVariables false
set_option linter.unusedSimpArgs false
namespace Go.Proofs.YtmiilifclnanlaaGreat
open Go Go.Wk Go.Proofs
open Classical
theorem allOf_eq {a:Arena}(h:a.Owner.length≤256):i_allOf a=some ((List.range a.Owner.length).map Int.ofNat):=by
 unfold i_allOf i_size i_AllOf
 rw[Option.bind_some,show decide ((a.Owner.length:Int)<0)=false from by simp]
 simp only[cond_false,Option.bind_some]
 rw[show decide ((256:Int)<(a.Owner.length:Int))=false from by simp;omega,cond_false,show Int.toNat ((a.Owner.length:Int)-0)=a.Owner.length from by omega]
 obtain⟨s,h1,h2⟩:=cnt_inv (f:=i_AllOf_b0) (fun j (s:List Int)=>s=(List.range j).map Int.ofNat) a.Owner.length (s:=[]) rfl (fun j s hj hs=>by
  subst hs
  unfold i_AllOf_b0
  rw[app1 (by rw[List.length_map,List.length_range];omega) rfl,Option.bind_some]
  exact⟨_,rfl,by rw[List.range_succ,List.map_append];rfl⟩)
 rw[h1]
 subst h2
 have:rng (a.Owner.length:Int)=some ():=by
  unfold rng
  first
   | rfl
   | rw[if_pos (by omega)]
 rw[this];rfl
noncomputable def wonL (n:Nat) (W:Int→Prop):List Int:=(List.range n).map fun(v:Nat)=>b2i (decide (¬W (v:Int)))
theorem wonL_len (n:Nat) (W:Int→Prop):(wonL n W).length=n:=by unfold wonL;rw[List.length_map,List.length_range]
theorem wonL_get {n:Nat}{W:Int→Prop}{v:Nat}(h:v<n):(wonL n W)[v]? =some (b2i (decide (¬W (v:Int)))):=by
 unfold wonL
 rw[List.getElem?_map,List.getElem?_range h];rfl
theorem wonL_of {n:Nat}{W:Int→Prop}{l:List Int}(hl:l.length=n) (h:∀v:Nat,v<n→l[v]? =some (b2i (decide (¬W (v:Int))))):l=wonL n W:=by
 apply List.ext_getElem?
 intro i
 by_cases hi:i<n
 · rw[h i hi,wonL_get hi]
 · rw[List.getElem?_eq_none (by omega),List.getElem?_eq_none (by rw[wonL_len];omega)]
theorem noDead_all {g:Parity}{n:Nat}(h:GOk g n) (hr:∀v r,idx g.Arena.Next v=some r→r≠[]):Par.NoDead (gI g) (fun v=>0≤v∧v<n):=fun v ⟨v0,v1⟩=>by
 obtain⟨r,hv⟩:=idx_some (xs:=g.Arena.Next) v0 (by have:=h.ln;omega)
 cases r with
 | nil=>exact absurd rfl (hr v [] hv)
 | cons u us=>
  refine⟨u,?_,(h.row v _ hv).2.2 u (List.mem_cons_self ..)⟩
  show u∈rowI g.Arena v
  rw[rowI_eq hv];exact List.mem_cons_self ..
theorem won_same {g:Parity}{n:Nat}(h:GOk g n) (hr:∀v r,idx g.Arena.Next v=some r→r≠[]):∃W,s_l7Won g=some (wonL n W)∧i_winners g=some (wonL n W)∧Par.Sol (gI g) (fun v=>0≤v∧v<n) false W:=by
 have hn:=h.n256
 have hN:=noDead_all h hr
 -- the program
 have hmem:∀v:Int,v∈(List.range n).map Int.ofNat↔0≤v∧v<n:=fun v=>by
  rw[List.mem_map]
  constructor
  · rintro⟨w,hw,rfl⟩
    rw[List.mem_range]at hw
    exact⟨Int.natCast_nonneg w,by show(w:Int)<n;omega⟩
  · rintro⟨v0,v1⟩
    obtain⟨w,hw⟩:=ex_nat v0
    subst hw
    exact⟨w,List.mem_range.2 (by omega),rfl⟩
 have eX:(fun v=>v∈(List.range n).map Int.ofNat)=fun v:Int=>0≤v∧v<n:=funext fun v=>propext (hmem v)
 obtain⟨E,O,W,k1,k2,k3,k4,k5,k6⟩:=wonIn_eq h (L:=(List.range n).map Int.ofNat) (fun v hv=>(hmem v).1 hv) (by rw[eX];exact hN)
 rw[eX]at k2
 refine⟨W,?_,?_,k2⟩
 · -- the reference
   obtain⟨P,p1,p2⟩:=s_of_ok h
   have hg:=gS_none h P
   have hA:In (List.replicate n true)=fun v:Int=>0≤v∧v<n:=funext fun v=>propext (In_all v)
   obtain⟨R,r1,r2,r3⟩:=s_win (h.wfS p2 (k:=List.replicate n (-1)) (by simp)) h.pri n (List.replicate n true) (2 ^ 64) (by simp) (by rw[hA,hg];exact hN) (by have:=cnt_le (List.replicate n true);simp at this;exact this) (by omega)
   rw[hg,hA]at r3
   have huq:=r3.uniq k2
   unfold s_l7Won
   rw[p1,Option.bind_some,all_eq h,Option.bind_some,r1,Option.bind_some,r2]
   obtain⟨s,h1,h2,h3⟩:=cnt_inv (f:=s_l7Won_b0 R) (fun j (s:List Int)=>s.length=j∧∀i:Nat,i<j→s[i]? =some (b2i (decide (¬W (i:Int))))) n (s:=[]) ⟨rfl,fun i hi=>absurd hi (Nat.not_lt_zero i)⟩ (fun j s hj ⟨q1,q2⟩=>by
    unfold s_l7Won_b0
    rw[In_get (B:=R) (by omega) (by omega),Option.bind_some]
    have hf:s_l1Flag (decide (In R (j:Int)))=some (b2i (decide (In R (j:Int)))):=by
     unfold s_l1Flag
     cases decide (In R (j:Int)) <;> rfl
    rw[hf,Option.bind_some,b2i_other,app1 (by omega) rfl,Option.bind_some]
    refine⟨_,rfl,by rw[List.length_append];simp;omega,fun i hi=>?_⟩
    by_cases e:i<j
    · rw[List.getElem?_append_left (by omega)];exact q2 i e
    · have:i=j:=by omega
      subst this
      rw[List.getElem?_append_right (by omega),q1,Nat.sub_self]
      show some _=some _
      congr 2
      rw[← decide_not]
      exact decide_eq_decide.2 (not_congr (huq _)))
   rw[h1,Option.bind_some,aft_inr,wonL_of h2 h3]
 · unfold i_winners
   rw[h.lp,mkS_nat (by omega) rfl,Option.bind_some,allOf_eq (by have:=h.lo;omega),h.lo,Option.bind_some,k1,Option.bind_some]
   obtain⟨s,h1,h2,h3⟩:=cnt_inv (f:=i_winners_b0 (E,O)) (fun j (s:List Int)=>s.length=n∧∀v:Int,0≤v→v<n→idx s v=some (b2i (decide (v∈O.take j)))) O.length (s:=List.replicate n 0) ⟨by simp,fun v v0 v1=>by
    rw[idx_int v0,List.getElem?_replicate,if_pos (by omega)];simp[b2i]⟩ (fun j s hj ⟨q1,q2⟩=>by
    have hu:O[j]? =some O[j]:=List.getElem?_eq_getElem hj
    generalize O[j]=u at hu
    obtain⟨u0,u1⟩:=(hmem u).1 ((k4 u).1 (List.mem_of_getElem? hu)).1
    obtain⟨s',hs,hl⟩:=setI_some (xs:=s) (i:=u) 1 u0 (by omega)
    unfold i_winners_b0
    dsimp only
    rw[idx_nat,hu,Option.bind_some,q2 u u0 u1,Option.bind_some,hs,Option.bind_some]
    refine⟨_,rfl,by omega,fun v v0 v1=>?_⟩
    rw[idx_setI hs,take_one hu]
    by_cases e:v=u
    · rw[if_pos e];simp[e,b2i]
    · rw[if_neg e,q2 v v0 v1];simp[e])
   dsimp only
   rw[h1,Option.bind_some,aft_inr]
   congr 1
   rw[List.take_length]at h3
   refine wonL_of h2 fun v hv=>?_
   rw[← idx_nat,h3 _ (by omega) (by omega)]
   congr 2
   refine decide_eq_decide.2 ?_
   rw[k4,hmem]
   exact⟨fun h=>h.2,fun h=>⟨⟨by omega,by omega⟩,h⟩⟩
theorem rows_some {g:Parity}(hp:parityOk g=true):∀v r,idx g.Arena.Next v=some r→r≠[]:=fun v r hr e=>by
 obtain⟨h1,h2,h3,h4,h5⟩:=parityOk_spec hp
 obtain⟨v0,_⟩:=idx_rng hr
 obtain⟨i,hi⟩:=ex_nat v0
 subst hi
 rw[idx_nat]at hr
 have:=(h5 i r hr).1
 rw[e]at this
 simp at this
end Go.Proofs.YtmiilifclnanlaaGreat
set_option linter.unusedVariables false
set_option linter.unusedSimpArgs false
namespace Go.Proofs.YtmiilifclnanlaaGreat.Par
open Classical
variable {G H:Gm}{X Y C T W W' D:Int→Prop}{p:Bool}{w w':Int→Bool}{k k':Int→Int}
theorem Dom.self (h:Dom G X p D):Dom G D p D:=by
 obtain⟨σ,a1,a2,a3,a4⟩:=h
 exact⟨σ,fun v hv=>hv,a2,fun v u _ _ _ hu=>hu,a4⟩
theorem Dom.congrG (h:Dom G X p D) (ho:∀v,D v→H.own v=G.own v) (hp:∀v,D v→H.pri v=G.pri v) (hE:∀v u,D v→(H.E v u↔G.E v u)):Dom H X p D:=by
 obtain⟨σ,a1,a2,a3,a4⟩:=h
 refine⟨σ,a1,fun v hv hq=>?_,fun v u hv hq he hx=>?_,fun π hπ=>?_⟩
 · rw[ho v hv]at hq
   have:=a2 v hv hq
   exact⟨(hE v _ hv).2 this.1,this.2⟩
 · rw[ho v hv]at hq
   exact a3 v u hv hq ((hE v u hv).1 he) hx
 · have hp':Play G p D σ π:=fun n=>by
    obtain⟨b1,b2,b3⟩:=hπ n
    exact⟨b1,(hE _ _ b1).1 b2,fun hq=>b3 (by rw[ho _ b1];exact hq)⟩
   obtain⟨d,c1,c2,N,c3⟩:=a4 π hp'
   have e:∀n,H.pri (π n)=G.pri (π n):=fun n=>hp _ (hπ n).1
   exact⟨d,c1,fun M=>by obtain⟨n,k1,k2⟩:=c2 M;exact⟨n,k1,by rw[e];exact k2⟩,N,fun n hn=>by rw[e];exact c3 n hn⟩
theorem Dom.restrict (h:Dom G X p D) (hc:∀v u,C v→G.E v u→C u):Dom G (fun v=>X v∧C v) p (fun v=>D v∧C v):=by
 obtain⟨σ,a1,a2,a3,a4⟩:=h
 refine⟨σ,fun v hv=>⟨a1 v hv.1,hv.2⟩,fun v hv hq=>?_,fun v u hv hq he hx=>⟨a3 v u hv.1 hq he hx.1,hx.2⟩,fun π hπ=>a4 π fun n=>?_⟩
 · obtain⟨b1,b2⟩:=a2 v hv.1 hq
   exact⟨b1,b2,hc v _ hv.2 b1⟩
 · obtain⟨b1,b2,b3⟩:=hπ n
   exact⟨b1.1,b2,b3⟩
theorem Sol.restrict (h:Sol G X p W) (hc:∀v u,C v→G.E v u→C u):Sol G (fun v=>X v∧C v) p (fun v=>W v∧C v):=by
 refine⟨fun v hv=>⟨h.sub v hv.1,hv.2⟩,h.mine.restrict hc,(h.yours.restrict hc).congr fun v=>?_⟩
 constructor
 · rintro⟨⟨h1,h2⟩,h3⟩
   exact⟨⟨h1,h3⟩,fun h=>h2 h.1⟩
 · rintro⟨⟨h1,h3⟩,h2⟩
   exact⟨⟨h1,fun h=>h2 ⟨h,h3⟩⟩,h3⟩
theorem Sol.congrG (h:Sol G X p W) (ho:∀v,X v→H.own v=G.own v) (hp:∀v,X v→H.pri v=G.pri v) (hE:∀v u,X v→(H.E v u↔G.E v u)):Sol H X p W:=
 ⟨h.sub,h.mine.congrG (fun v hv=>ho v (h.sub v hv)) (fun v hv=>hp v (h.sub v hv)) (fun v u hv=>hE v u (h.sub v hv)),
  h.yours.congrG (fun v hv=>ho v hv.1) (fun v hv=>hp v hv.1) (fun v u hv=>hE v u hv.1)⟩
theorem hold_iff {R:Int→Prop}{q:Bool}(hs:Sol G Y false R):(∀x,Y x→(R x↔q=false))↔Dom G Y q Y:=by
 constructor
 · intro h
   cases q with
   | false=>exact hs.mine.congr fun v=>⟨hs.sub v,fun hv=>(h v hv).2 rfl⟩
   | true=>exact hs.yours.congr fun v=>⟨fun hv=>hv.1,fun hv=>⟨hv,fun hr=>absurd ((h v hv).1 hr) (by decide)⟩⟩
 · intro h x hx
   have:=hs.uniq ((Sol.all h).asP false) x
   rw[this]
   exact⟨fun h=>(h.2.1 hx).symm,fun e=>⟨hx,fun _=>e.symm,fun _=>hx⟩⟩
def pickG (G:Gm) (k:Int→Int):Gm:=⟨G.own,G.pri,fun v u=>G.E v u∧(k v<0∨k v=u)⟩
def Rg (X:Int→Prop) (w:Int→Bool) (q:Bool):Int→Prop:=fun v=>X v∧w v=q
def updF (k:Int→Int) (v u:Int):Int→Int:=fun x=>if x=v then u else k x
structure PInv (G:Gm) (X:Int→Prop) (w:Int→Bool) (k:Int→Int):Prop where
 pick:∀v,0≤k v→X v∧G.own v=w v∧G.E v (k v)∧X (k v)∧w (k v)=w v
 dom:∀q,Dom (pickG G k) (Rg X w q) q (Rg X w q)
 yours:∀v u,X v→¬G.own v=w v→G.E v u→X u→w u=w v
theorem Sol.rg (h:Sol G X false W) (hw:∀v,X v→(w v=false↔W v)) (q:Bool):Dom G X q (Rg X w q):=by
 cases q with
 | false=>exact h.mine.congr fun v=>⟨fun hv=>⟨h.sub v hv,(hw v (h.sub v hv)).2 hv⟩,fun hv=>(hw v hv.1).1 hv.2⟩
 | true=>exact h.yours.congr fun v=>⟨fun hv=>⟨hv.1,by
  cases e:w v with
  | true=>rfl
  | false=>exact absurd ((hw v hv.1).1 e) hv.2⟩,fun hv=>⟨hv.1,fun h'=>by
  have:=(hw v hv.1).2 h'
  rw[hv.2]at this
  cases this⟩⟩
theorem PInv.start (h:Sol G X false W) (hw:∀v,X v→(w v=false↔W v)) (hk:∀v,k v<0):PInv G X w k:=by
 refine⟨fun v hv=>absurd (hk v) (by omega),fun q=>((h.rg hw q).self).congrG (fun _ _=>rfl) (fun _ _=>rfl) fun v u _=>⟨fun h=>h.1,fun h=>⟨h,.inl (hk v)⟩⟩,fun v u hv ho he hu=>?_⟩
 obtain⟨σ,a1,a2,a3,a4⟩:=h.rg hw (w v)
 exact(a3 v u ⟨hv,rfl⟩ ho he hu).2
theorem PInv.ex (hI:PInv G X w k){v:Int}(hv:X v) (ho:G.own v=w v) (hk:k v<0):∃u,G.E v u∧X u∧w u=w v∧Dom (pickG G (updF k v u)) (Rg X w (w v)) (w v) (Rg X w (w v)):=by
 obtain⟨σ,a1,a2,a3,a4⟩:=hI.dom (w v)
 obtain⟨⟨e1,_⟩,e2,e3⟩:=a2 v ⟨hv,rfl⟩ ho
 refine⟨σ v,e1,e2,e3,σ,a1,fun x hx hq=>?_,fun x y hx hq he hy=>hy,fun π hπ=>a4 π fun n=>?_⟩
 · obtain⟨⟨b1,b2⟩,b3⟩:=a2 x hx hq
   refine⟨⟨b1,?_⟩,b3⟩
   unfold updF
   by_cases e:x=v
   · rw[if_pos e,e];exact .inr rfl
   · rw[if_neg e];exact b2
 · obtain⟨b1,⟨b2,b3⟩,b4⟩:=hπ n
   refine⟨b1,⟨b2,?_⟩,b4⟩
   unfold updF at b3
   by_cases e:π n=v
   · rw[e];exact .inl hk
   · rwa [if_neg e]at b3
theorem PInv.step (hI:PInv G X w k){v u:Int}(hv:X v) (ho:G.own v=w v) (h1:G.E v u) (h2:X u) (h3:w u=w v) (hd:Dom (pickG G (updF k v u)) (Rg X w (w v)) (w v) (Rg X w (w v))):PInv G X w (updF k v u):=by
 refine⟨fun x hx=>?_,fun q=>?_,hI.yours⟩
 · by_cases e:x=v
   · subst e
     have:updF k x u x=u:=if_pos rfl
     rw[this];exact⟨hv,ho,h1,h2,h3⟩
   · have:updF k v u x=k x:=if_neg e
     rw[this]at hx ⊢;exact hI.pick x hx
 · by_cases e:q=w v
   · subst e;exact hd
   · refine(hI.dom q).congrG (fun _ _=>rfl) (fun _ _=>rfl) fun x y hx=>?_
     have:x≠v:=fun e'=>e (by rw[← hx.2,e'])
     have:updF k v u x=k x:=if_neg this
     show _∧_↔_∧_
     rw[this]
theorem PInv.noDead (hI:PInv G X w k) (hN:NoDead G X){v u:Int}(h1:G.E v u) (h2:X u) (h3:w u=w v) (q:Bool):NoDead (pickG G (updF k v u)) (Rg X w q):=fun x ⟨hx,hq⟩=>by
 by_cases e:x=v
 · subst e;exact⟨u,⟨h1,.inr (if_pos rfl)⟩,h2,by rw[h3,hq]⟩
 · have e':updF k v u x=k x:=if_neg e
   by_cases ho:G.own x=w x
   · obtain⟨σ,_,a2,_⟩:=hI.dom q
     obtain⟨⟨b1,b2⟩,b3⟩:=a2 x ⟨hx,hq⟩ (by show G.own x=q;rw[ho,hq])
     exact⟨σ x,⟨b1,by rw[e'];exact b2⟩,b3⟩
   · obtain⟨y,c1,c2⟩:=hN x hx
     refine⟨y,⟨c1,.inl ?_⟩,c2,by rw[hI.yours x y hx ho c1 c2,hq]⟩
     rw[e']
     apply Classical.byContradiction
     intro hn
     exact ho (hI.pick x (by omega)).2.1
inductive Rch (H:Gm) (Y:Int→Prop):Int→Int→Prop
 | refl {v:Int}:Y v→Rch H Y v v
 | step {v u x:Int}:Y v→H.E v u→Rch H Y u x→Rch H Y v x
def Loop (H:Gm) (Y:Int→Prop) (v:Int):Prop:=∃u,H.E v u∧Rch H Y u v
theorem Rch.fst {v x:Int}(h:Rch H Y v x):Y v:=by cases h <;> assumption
theorem Rch.lst {v x:Int}(h:Rch H Y v x):Y x:=by induction h with
 | refl h=>exact h
 | step _ _ _ ih=>exact ih
theorem Rch.snoc {v x y:Int}(h:Rch H Y v x) (he:H.E x y) (hy:Y y):Rch H Y v y:=by induction h with
 | refl h=>exact .step h he (.refl hy)
 | step h1 h2 _ ih=>exact .step h1 h2 (ih he)
theorem Rch.mono {H':Gm}{Y':Int→Prop}{v x:Int}(h:Rch H Y v x) (hy:∀a,Y a→Y' a) (he:∀a b,Y a→Y b→H.E a b→H'.E a b):Rch H' Y' v x:=by induction h with
 | refl h=>exact .refl (hy _ h)
 | step h1 h2 h3 ih=>exact .step (hy _ h1) (he _ _ h1 h3.fst h2) ih
theorem Loop.mono {H':Gm}{Y':Int→Prop}{v:Int}(h:Loop H Y v) (hy:∀a,Y a→Y' a) (he:∀a b,Y a→Y b→H.E a b→H'.E a b):Loop H' Y' v:=by
 obtain⟨u,h1,h2⟩:=h
 exact⟨u,he v u h2.lst h2.fst h1,h2.mono hy he⟩
theorem Rch.path {v x:Int}(h:Rch H Y v x):∃(m:Nat) (f:Nat→Int),f 0=v∧f m=x∧(∀i,i<m→H.E (f i) (f (i+1)))∧∀i,i≤m→Y (f i):=by induction h with
 | @refl v h=>exact⟨0,fun _=>v,rfl,rfl,fun i hi=>absurd hi (Nat.not_lt_zero i),fun _ _=>h⟩
 | @step v u x h1 h2 _ ih=>
  obtain⟨m,f,a1,a2,a3,a4⟩:=ih
  refine⟨m+1,fun i=>match i with | 0=>v | i+1=>f i,rfl,a2,fun i hi=>?_,fun i hi=>?_⟩
  · cases i with
    | zero=>show H.E v (f 0);rw[a1];exact h2
    | succ i=>exact a3 i (by omega)
  · cases i with
    | zero=>exact h1
    | succ i=>exact a4 i (by omega)
theorem Rch.ofPath {f:Nat→Int}(he:∀i,H.E (f i) (f (i+1))){a:Nat}(hy:∀i,a≤i→Y (f i)) (m:Nat):Rch H Y (f a) (f (a+m)):=by induction m with
 | zero=>exact .refl (hy a (by omega))
 | succ m ih=>exact ih.snoc (he _) (hy _ (by omega))
def Io (S:Nat→Prop):Prop:=∀N,∃m,N≤m∧S m
theorem Io.val {f:Nat→Int}:∀(n:Nat){S:Nat→Prop},Io S→(∀m,S m→0≤f m∧f m<n)→∃v,Io fun m=>S m∧f m=v:=by
 intro n
 induction n with
 | zero=>
  intro S hS hb
  obtain⟨m,_,hm⟩:=hS 0
  have:=hb m hm
  omega
 | succ n ih=>
  intro S hS hb
  by_cases h:Io fun m=>S m∧f m=(n:Int)
  · exact⟨n,h⟩
  · obtain⟨N,hN⟩:=Classical.not_forall.1 h
    obtain⟨v,hv⟩:=ih (S:=fun m=>S m∧N≤m) (fun M=>by
     obtain⟨m,h1,h2⟩:=hS (max M N)
     exact⟨m,by omega,h2,by omega⟩) (fun m hm=>by
     have:=hb m hm.1
     have:¬f m=(n:Int):=fun e=>hN ⟨m,hm.2,hm.1,e⟩
     omega)
    exact⟨v,fun M=>by
     obtain⟨m,h1,h2,h3⟩:=hv M
     exact⟨m,h1,h2.1,h3⟩⟩
theorem inf_max {f:Nat→Int}:∀(b:Nat) (N:Nat),(∀m,N≤m→0≤f m∧f m<b)→∃d,(∀N,∃n,N≤n∧f n=d)∧∃N,∀n,N≤n→f n≤d:=by
 intro b
 induction b with
 | zero=>
  intro N h
  have:=h N (by omega)
  omega
 | succ b ih=>
  intro N h
  by_cases h':∀N,∃n,N≤n∧f n=(b:Int)
  · exact⟨b,h',N,fun n hn=>by have:=h n hn;omega⟩
  · obtain⟨M,hM⟩:=Classical.not_forall.1 h'
    refine ih (max N M) fun m hm=>?_
    have:=h m (by omega)
    have:¬f m=(b:Int):=fun e=>hM ⟨m,by omega,e⟩
    omega
structure Ans (G:Gm) (X:Int→Prop) (w:Int→Bool) (k:Int→Int):Prop where
 mine:∀v,X v→G.own v=w v→0≤k v∧G.E v (k v)∧X (k v)∧w (k v)=w v
 free:∀v,X v→¬G.own v=w v→k v<0
 yours:∀v u,X v→¬G.own v=w v→G.E v u→X u→w u=w v
 noloop:∀v,X v→¬oddP (G.pri v)=w v→¬Loop (pickG G k) (fun x=>Rg X w (w v) x∧G.pri x≤G.pri v) v
theorem Ans.dom (h:Ans G X w k){n b:Nat}(hX:∀v,X v→0≤v∧v<n) (hp:∀v,X v→0≤G.pri v∧G.pri v<b) (q:Bool):Dom G X q (Rg X w q):=by
 refine⟨k,fun v hv=>hv.1,fun v hv ho=>?_,fun v u hv ho he hx=>⟨hx,?_⟩,fun π hπ=>?_⟩
 · obtain⟨a1,a2,a3,a4⟩:=h.mine v hv.1 (by rw[ho,hv.2])
   exact⟨a2,a3,by rw[a4,hv.2]⟩
 · rw[h.yours v u hv.1 (by rw[hv.2];exact ho) he hx,hv.2]
 · obtain⟨d,d1,N,d2⟩:=inf_max (f:=fun n=>G.pri (π n)) b 0 fun m _=>hp _ (hπ m).1.1
   refine⟨d,?_,d1,N,d2⟩
   apply Classical.byContradiction
   intro hd
   obtain⟨v,hv⟩:=Io.val (f:=π) n (S:=fun m=>N≤m∧G.pri (π m)=d) (fun M=>by
    obtain⟨m,h1,h2⟩:=d1 (max M N)
    exact⟨m,by omega,by omega,h2⟩) (fun m _=>hX _ (hπ m).1.1)
   obtain⟨m1,_,⟨c1,c2⟩,c3⟩:=hv 0
   obtain⟨m2,c4,_,c6⟩:=hv (m1+1)
   have c2:G.pri (π m1)=d:=c2
   rw[c3]at c2
   have hv1:Rg X w q v:=by rw[← c3];exact(hπ m1).1
   have hE:∀i,(pickG G k).E (π i) (π (i+1)):=fun i=>by
    obtain⟨b1,b2,b3⟩:=hπ i
    refine⟨b2,?_⟩
    by_cases ho:G.own (π i)=q
    · exact .inr (b3 ho).symm
    · exact .inl (h.free _ b1.1 (by rw[b1.2];exact ho))
   have hr:=Rch.ofPath (H:=pickG G k) (Y:=fun x=>Rg X w (w v) x∧G.pri x≤G.pri v) (f:=π) hE (a:=m1+1) (fun i hi=>⟨by rw[hv1.2];exact(hπ i).1,by rw[c2];exact d2 i (by omega)⟩) (m2-(m1+1))
   rw[show m1+1+(m2-(m1+1))=m2 from by omega,c6]at hr
   refine h.noloop v hv1.1 (by rw[hv1.2,c2];exact hd) ⟨π (m1+1),?_,hr⟩
   have:=hE m1
   rwa [c3]at this
theorem Ans.sol (h:Ans G X w k){n b:Nat}(hX:∀v,X v→0≤v∧v<n) (hp:∀v,X v→0≤G.pri v∧G.pri v<b):Sol G X false (Rg X w false):=by
 refine⟨fun v hv=>hv.1,h.dom hX hp false,(h.dom hX hp true).congr fun v=>?_⟩
 constructor
 · rintro⟨h1,h2⟩
   exact⟨h1,fun h'=>absurd (h2.symm.trans h'.2) (by decide)⟩
 · rintro⟨h1,h2⟩
   refine⟨h1,?_⟩
   cases e:w v with
   | true=>rfl
   | false=>exact absurd ⟨h1,e⟩ h2
theorem PInv.ans (hI:PInv G X w k) (hk:∀v,X v→G.own v=w v→0≤k v):Ans G X w k:=by
 refine⟨fun v hv ho=>⟨hk v hv ho,(hI.pick v (hk v hv ho)).2.2⟩,fun v hv ho=>?_,hI.yours,fun v hv ho hl=>?_⟩
 · apply Classical.byContradiction
   intro hn
   exact ho (hI.pick v (by omega)).2.1
 · obtain⟨σ,a1,a2,a3,a4⟩:=hI.dom (w v)
   obtain⟨u,he,hr⟩:=hl
   obtain⟨m,f,f0,fm,fe,fy⟩:=(Rch.step hr.lst he hr).path
   -- the loop has at least one step
   have hm:0<m∨True:= .inr trivial
   obtain⟨m',g,g0,gm,ge,gy⟩:=hr.path
   let π:Nat→Int:=fun i=>if i % (m'+1)=0 then v else g (i % (m'+1)-1)
   have p0:∀i,i % (m'+1)=0→π i=v:=fun i hi=>if_pos hi
   have p1:∀i,i % (m'+1)≠0→π i=g (i % (m'+1)-1):=fun i hi=>if_neg hi
   have hY:∀i,Rg X w (w v) (π i)∧G.pri (π i)≤G.pri v:=fun i=>by
    by_cases e:i % (m'+1)=0
    · rw[p0 i e];exact hr.lst
    · rw[p1 i e]
      exact gy _ (by have:=Nat.mod_lt i (show 0<m'+1 by omega);omega)
   have hE:∀i,(pickG G k).E (π i) (π (i+1)):=fun i=>by
    have hlt:=Nat.mod_lt i (show 0<m'+1 by omega)
    have hs:(i+1) % (m'+1)=if i % (m'+1)=m' then 0 else i % (m'+1)+1:=by
     rw[Nat.add_mod]
     by_cases e:i % (m'+1)=m'
     · rw[if_pos e,e]
       cases m' with
       | zero=>simp
       | succ m'=>rw[Nat.mod_eq_of_lt (show 1<m'+1+1 by omega),Nat.mod_self]
     · rw[if_neg e,Nat.mod_eq_of_lt (show 1<m'+1 by omega),Nat.mod_eq_of_lt (by omega)]
    by_cases e:i % (m'+1)=m'
    · rw[if_pos e]at hs
      rw[p0 (i+1) hs]
      by_cases e0:i % (m'+1)=0
      · rw[p0 i e0]
        have:m'=0:=by omega
        subst this
        rw[← gm,g0]at he ⊢
        rw[g0]at gm
        rw[← gm]at *
        exact he
      · rw[p1 i e0,e,← gm]
        have:=ge (m'-1) (by omega)
        rwa [show m'-1+1=m' from by omega]at this
    · rw[if_neg e]at hs
      rw[p1 (i+1) (by omega),hs]
      by_cases e0:i % (m'+1)=0
      · rw[p0 i e0,e0,Nat.zero_add,Nat.sub_self,g0];exact he
      · rw[p1 i e0]
        have:=ge (i % (m'+1)-1) (by omega)
        rwa [show i % (m'+1)-1+1=i % (m'+1)+1-1 from by omega]at this
   have hπ:Play (pickG G k) (w v) (Rg X w (w v)) σ π:=fun i=>by
    refine⟨(hY i).1,hE i,fun hq=>?_⟩
    have ho:G.own (π i)=w (π i):=by rw[(hY i).1.2];exact hq
    have h0:=hk _ (hY i).1.1 ho
    have e1:=(hE i).2.resolve_left (by omega)
    have e2:=(a2 _ (hY i).1 hq).1.2.resolve_left (by omega)
    rw[← e1,← e2]
   obtain⟨d,d1,d2,N,d3⟩:=a4 π hπ
   obtain⟨i,i1,i2⟩:=d2 N
   have j1:=(hY i).2
   have j2:=d3 ((m'+1) * N) (by
    have:=Nat.le_mul_of_pos_left N (show 0<m'+1 by omega)
    exact this)
   rw[p0 _ (Nat.mul_mod_right _ _)]at j2
   have i2:G.pri (π i)=d:=i2
   have j2:G.pri v≤d:=j2
   have:d=G.pri v:=by omega
   rw[this]at d1
   exact ho d1
theorem Sol.beside (h:Sol G X false W) (h':Sol H X false W') (eo:∀v,X v→¬T v→H.own v=G.own v) (ep:∀v,X v→¬T v→H.pri v=G.pri v) (eE:∀v u,X v→¬T v→(H.E v u↔G.E v u)) (hc:∀v u,X v→¬T v→G.E v u→X u∧¬T u) (v:Int) (hv:X v) (ht:¬T v):W v↔W' v:=by
 have r1:=h.restrict (C:=fun v=>X v∧¬T v) fun v u hv he=>hc v u hv.1 hv.2 he
 have r2:=h'.restrict (C:=fun v=>X v∧¬T v) fun v u hv he=>hc v u hv.1 hv.2 ((eE v u hv.1 hv.2).1 he)
 have r3:=r2.congrG (H:=G) (fun v hv=>(eo v hv.1 hv.2.2).symm) (fun v hv=>(ep v hv.1 hv.2.2).symm) (fun v u hv=>(eE v u hv.1 hv.2.2).symm)
 have:=r1.uniq r3 v
 exact⟨fun h=>(this.1 ⟨h,hv,ht⟩).1,fun h=>(this.2 ⟨h,hv,ht⟩).1⟩
end Go.Proofs.YtmiilifclnanlaaGreat.Par
set_option linter.unusedVariables false
set_option linter.unusedSimpArgs false
namespace Go.Proofs.YtmiilifclnanlaaGreat
open Go Go.Wk Go.Proofs
open Classical
def pkL (k:List Int) (v:Int):Int:=(idx k v).getD (-1)
theorem pkL_eq {k:List Int}{v x:Int}(h:idx k v=some x):pkL k v=x:=by unfold pkL;rw[h];rfl
theorem pkL_set {k k':List Int}{v u:Int}(h:setI k v u=some k'):pkL k'=Par.updF (pkL k) v u:=by
 funext w
 unfold pkL Par.updF
 rw[idx_setI h]
 by_cases e:w=v
 · rw[if_pos e,if_pos e];rfl
 · rw[if_neg e,if_neg e]
theorem pkL_get {k:List Int}{n:Nat}(hk:k.length=n){v:Int}(h0:0≤v) (h1:v<n):idx k v=some (pkL k v):=by
 obtain⟨x,hx⟩:=idx_some (xs:=k) h0 (by omega)
 rw[pkL_eq hx];exact hx
def Xn (n:Nat):Int→Prop:=fun v=>0≤v∧v<n
theorem rowI_none {a:Arena}{v:Int}(h:idx a.Next v=none):rowI a v=[]:=by unfold rowI;rw[h];rfl
section
variable {g:Parity}{n:Nat}(h:GOk g n)
include h
theorem E_rng {v u:Int}(he:(gI g).E v u):Xn n v∧Xn n u:=by
 have he:u∈rowI g.Arena v:=he
 cases hr:idx g.Arena.Next v with
 | none=>rw[rowI_none hr]at he;cases he
 | some r=>
  rw[rowI_eq hr]at he
  obtain⟨v0,v1⟩:=idx_rng hr
  have:=h.ln
  exact⟨⟨v0,by omega⟩,(h.row v r hr).2.2 u he⟩
theorem gS_pick (P:List (List Int)){k:List Int}(hk:k.length=n):gS ⟨g.Arena.Owner,g.Prio,g.Arena.Next,P,k⟩=Par.pickG (gI g) (pkL k):=by
 unfold gS gI Par.pickG mkG
 dsimp only
 congr 1
 funext v u
 apply propext
 cases hr:idx g.Arena.Next v with
 | none=>
  rw[rowI_none hr]
  unfold rowS
  dsimp only
  rw[hr]
  simp
 | some r=>
  obtain⟨v0,v1⟩:=idx_rng hr
  have hk':=pkL_get hk v0 (by have:=h.ln;omega)
  rw[rowI_eq hr,rowS_eq (x:=⟨g.Arena.Owner,g.Prio,g.Arena.Next,P,k⟩) hr hk',List.mem_filter]
  unfold okE
  simp
end
theorem i_copyArena_eq {g:Parity}(hp:parityOk g=true):i_copyArena g.Arena=some g.Arena:=by
 obtain⟨h1,h2,h3,h4,h5⟩:=parityOk_spec hp
 unfold i_copyArena i_copyLists
 rw[appL (by rw[List.length_nil];omega) rfl,Option.bind_some]
 obtain⟨s,e1,e2⟩:=cnt_inv (f:=i_copyLists_b0 g.Arena.Next) (fun j s=>s=g.Arena.Next.take j) g.Arena.Next.length (s:=[]) rfl (fun j s hj hs=>by
  subst hs
  have hx:g.Arena.Next[j]? =some g.Arena.Next[j]:=by simp[hj]
  have:=h5 j _ hx
  unfold i_copyLists_b0
  rw[idx_nat,hx,Option.bind_some,appL (by rw[List.length_nil];omega) rfl,Option.bind_some,app1 (by rw[List.length_take];omega) rfl]
  refine⟨_,rfl,?_⟩
  rw[List.take_add_one,hx];rfl)
 rw[e1,e2,List.take_length,Option.bind_some,aft_inr,Option.bind_some]
 rfl
theorem i_fixedBy_eq {g:Parity}{n:Nat}(hp:parityOk g=true) (hn:n=g.Prio.length){k:List Int}(hk:k.length=n):∃s,i_fixedBy g.Arena k=some ⟨g.Arena.Owner,s⟩∧s.length=n∧∀v r,idx g.Arena.Next v=some r→idx s v=some (if 0≤pkL k v then[pkL k v] else r):=by
 have h:=GOk.of hp
 rw[← hn]at h
 unfold i_fixedBy
 rw[i_copyArena_eq hp,Option.bind_some,hk]
 obtain⟨s,h1,h2,h3⟩:=cnt_inv (f:=i_fixedBy_b0 k) (fun j (s:List (List Int))=>s.length=n∧∀v r,idx g.Arena.Next v=some r→idx s v=some (if v<j∧0≤pkL k v then[pkL k v] else r)) n (s:=g.Arena.Next) ⟨h.ln,fun v r hr=>by
  have:=(idx_rng hr).1
  rw[if_neg (by omega)];exact hr⟩ (fun j s hj ⟨q1,q2⟩=>by
  have hkj:=pkL_get hk (v:=(j:Int)) (by omega) (by omega)
  obtain⟨old,ho⟩:=idx_some (xs:=s) (i:=(j:Int)) (by omega) (by omega)
  obtain⟨s',hs,hl⟩:=setI_some (xs:=s) (i:=(j:Int)) [pkL k j] (by omega) (by omega)
  unfold i_fixedBy_b0
  rw[hkj,Option.bind_some,ho,Option.bind_some,hs,Option.bind_some]
  by_cases e:0≤pkL k j
  · rw[decide_eq_true e,cond_true,Option.bind_some]
    refine⟨_,rfl,by omega,fun v r hr=>?_⟩
    rw[idx_setI hs]
    by_cases ev:v=j
    · subst ev
      rw[if_pos rfl,if_pos ⟨by omega,e⟩]
    · rw[if_neg ev,q2 v r hr]
      by_cases ep:0≤pkL k v
      · by_cases el:v<j
        · rw[if_pos ⟨el,ep⟩,if_pos ⟨by omega,ep⟩]
        · rw[if_neg (fun h=>el h.1),if_neg (fun h=>by have:=h.1;omega)]
      · rw[if_neg (fun h=>ep h.2),if_neg (fun h=>ep h.2)]
  · rw[decide_eq_false e,cond_false,Option.bind_some]
    refine⟨_,rfl,q1,fun v r hr=>?_⟩
    rw[q2 v r hr]
    by_cases ep:0≤pkL k v
    · by_cases el:v<j
      · rw[if_pos ⟨el,ep⟩,if_pos ⟨by omega,ep⟩]
      · have:v≠j:=fun ev=>e (ev ▸ ep)
        rw[if_neg (fun h=>el h.1),if_neg (fun h=>by have:=h.1;omega)]
    · rw[if_neg (fun h=>ep h.2),if_neg (fun h=>ep h.2)])
 rw[h1,Option.bind_some,aft_inr]
 refine⟨s,rfl,h2,fun v r hr=>?_⟩
 rw[h3 v r hr]
 have:=(idx_rng hr).2
 have:=h.ln
 by_cases ep:0≤pkL k v
 · rw[if_pos ⟨by omega,ep⟩,if_pos ep]
 · rw[if_neg (fun h=>ep h.2),if_neg ep]
theorem only_eq {g:Parity}{n:Nat}(hp:parityOk g=true) (hn:n=g.Prio.length){k:List Int}(hk:k.length=n) (hE:∀v,0≤pkL k v→(gI g).E v (pkL k v)):∃g',i_onlyBy g k=some g'∧GOk g' n∧gI g'=Par.pickG (gI g) (pkL k):=by
 have h:=GOk.of hp
 rw[← hn]at h
 obtain⟨s,s1,s2,s3⟩:=i_fixedBy_eq hp hn hk
 unfold i_onlyBy
 rw[s1,Option.bind_some,appL (by rw[List.length_nil];have:=h.n256;omega) rfl,Option.bind_some]
 have hrow:∀v r',idx s v=some r'→∃r,idx g.Arena.Next v=some r∧r'=if 0≤pkL k v then[pkL k v] else r:=fun v r' hr'=>by
  obtain⟨v0,v1⟩:=idx_rng hr'
  obtain⟨r,hr⟩:=idx_some (xs:=g.Arena.Next) (i:=v) v0 (by have:=h.ln;omega)
  refine⟨r,hr,?_⟩
  rw[s3 v r hr]at hr'
  exact(Option.some.inj hr').symm
 refine⟨_,rfl,⟨h.n256,h.lo,h.lp,s2,h.ow,fun v r' hr'=>?_,h.pri⟩,?_⟩
 · obtain⟨r,hr,e⟩:=hrow v r' hr'
   by_cases ep:0≤pkL k v
   · rw[if_pos ep]at e
     have hE':pkL k v∈rowI g.Arena v:=hE v ep
     rw[rowI_eq hr]at hE'
     subst e
     refine⟨by simp,by simp,fun u hu=>?_⟩
     rw[List.mem_singleton]at hu
     subst hu
     exact(h.row v r hr).2.2 _ hE'
   · rw[if_neg ep]at e
     subst e
     exact h.row v r' hr
 · unfold gI Par.pickG mkG
   dsimp only
   congr 1
   funext v u
   apply propext
   cases hr:idx g.Arena.Next v with
   | none=>
    have:idx s v=none:=by
     cases hs:idx s v with
     | none=>rfl
     | some r'=>
      obtain⟨r,hr',_⟩:=hrow v r' hs
      rw[hr]at hr';cases hr'
    rw[rowI_none hr,rowI_none (a:=⟨g.Arena.Owner,s⟩) this]
    simp
   | some r=>
    rw[rowI_eq hr,rowI_eq (a:=⟨g.Arena.Owner,s⟩) (s3 v r hr)]
    by_cases ep:0≤pkL k v
    · rw[if_pos ep,List.mem_singleton]
      have hE':pkL k v∈rowI g.Arena v:=hE v ep
      rw[rowI_eq hr]at hE'
      constructor
      · intro e;subst e;exact⟨hE',.inr rfl⟩
      · rintro⟨_,h | h⟩
        · omega
        · exact h.symm
    · rw[if_neg ep]
      exact⟨fun hu=>⟨hu,.inl (by omega)⟩,fun hu=>hu.1⟩
theorem s_holds {x:l7Game}{n:Nat}(wf:WfS x n) (hp:PriOk x.prio){B:List Bool}(hB:B.length=n) (hN:Par.NoDead (gS x) (In B)) (q:Bool):s_l7Holds x B (b2i q)=some (decide (Par.Dom (gS x) (In B) q (In B))):=by
 have hn:=wf.n256
 obtain⟨R,r1,r2,r3⟩:=s_win wf hp n B (2 ^ 64) hB hN (by have:=cnt_le B;omega) (by omega)
 unfold s_l7Holds
 rw[r1,Option.bind_some]
 have hh:=Par.hold_iff (q:=q) r3
 have key:=cnt_allP (f:=s_l7Holds_b0 B (b2i q) R) (r:=false) (fun i b=> !(b&&(decide (In R (i:Int)) != !q))) (xs:=B) (n:=B.length) rfl (fun i b hb=>by
  have hlt:=(List.getElem?_eq_some_iff.1 hb).1
  unfold s_l7Holds_b0
  rw[idx_nat,hb,Option.bind_some,In_get (B:=R) (by omega) (by omega),Option.bind_some,b2i_beq0]
  cases b <;> cases(decide (In R (i:Int)) != !q) <;> rfl)
 rw[key,Option.bind_some]
 have:(B.zipIdx.all fun p=> !(p.1&&(decide (In R (p.2:Int)) != !q)))=decide (Par.Dom (gS x) (In B) q (In B)):=by
  rw[Bool.eq_iff_iff,decide_eq_true_iff,← hh,List.all_eq_true]
  constructor
  · intro ha v hv
    obtain⟨v0,v1⟩:=In_of hB hv
    obtain⟨i,hi⟩:=ex_nat v0
    subst hi
    have hv':idx B (i:Int)=some true:=hv
    rw[idx_nat]at hv'
    have:=ha (true,i) (by rw[List.mem_zipIdx_iff_getElem?];exact hv')
    dsimp only at this
    by_cases hR:In R (i:Int)
    · rw[decide_eq_true hR]at this
      cases q with
      | true=>simp at this
      | false=>exact⟨fun _=>rfl,fun _=>hR⟩
    · rw[decide_eq_false hR]at this
      cases q with
      | true=>exact⟨fun h=>absurd h hR,fun h=>absurd h (by decide)⟩
      | false=>simp at this
  · rintro hm ⟨b,i⟩ hp
    rw[List.mem_zipIdx_iff_getElem?]at hp
    dsimp only at hp ⊢
    cases b with
    | false=>rfl
    | true=>
     have hv:In B (i:Int):=by unfold In;rw[idx_nat];exact hp
     have:=hm _ hv
     by_cases hR:In R (i:Int)
     · rw[decide_eq_true hR,this.1 hR];rfl
     · rw[decide_eq_false hR]
       cases q with
       | true=>rfl
       | false=>exact absurd (this.2 rfl) hR
 rw[this]
 cases decide (Par.Dom (gS x) (In B) q (In B)) <;> rfl
end Go.Proofs.YtmiilifclnanlaaGreat
set_option linter.unusedVariables false
set_option linter.unusedSimpArgs false
namespace Go.Proofs.YtmiilifclnanlaaGreat
open Go Go.Wk Go.Proofs
open Classical
noncomputable def wB (W:Int→Prop) (v:Int):Bool:=decide (¬W v)
theorem wB_false {W:Int→Prop}{v:Int}:wB W v=false↔W v:=by unfold wB;simp
theorem wonL_idx {n:Nat}{W:Int→Prop}{v:Int}(h:Xn n v):idx (wonL n W) v=some (b2i (wB W v)):=by
 obtain⟨h0,h1⟩:=h
 obtain⟨i,hi⟩:=ex_nat h0
 subst hi
 rw[idx_nat,wonL_get (by omega)];rfl
theorem updF_updF {k:Int→Int}{v a b:Int}:Par.updF (Par.updF k v a) v b=Par.updF k v b:=by
 funext x
 unfold Par.updF
 by_cases e:x=v
 · rw[if_pos e,if_pos e]
 · rw[if_neg e,if_neg e,if_neg e]
theorem updF_self {k:Int→Int}{v a:Int}(h:k v=a):Par.updF k v a=k:=by
 funext x
 unfold Par.updF
 by_cases e:x=v
 · rw[if_pos e,e,h]
 · rw[if_neg e]
theorem pkL_ext {a b:List Int}{n:Nat}(ha:a.length=n) (hb:b.length=n) (h:pkL a=pkL b):a=b:=by
 apply List.ext_getElem?
 intro i
 by_cases hi:i<n
 · have h1:=pkL_get ha (v:=(i:Int)) (by omega) (by omega)
   have h2:=pkL_get hb (v:=(i:Int)) (by omega) (by omega)
   rw[idx_nat]at h1 h2
   rw[h1,h2,h]
 · rw[List.getElem?_eq_none (by omega),List.getElem?_eq_none (by omega)]
theorem first_of {C:Int→Prop}:∀{row:List Int},(∃u,u∈row∧C u)→∃(i:Nat) (u:Int),row[i]? =some u∧C u∧∀(j:Nat) y,j<i→row[j]? =some y→¬C y
 | [],h=>by obtain⟨u,hu,_⟩:=h;cases hu
 | x::r,h=>by
  by_cases hx:C x
  · exact⟨0,x,rfl,hx,fun j y hj=>absurd hj (Nat.not_lt_zero j)⟩
  · obtain⟨i,u,h1,h2,h3⟩:=first_of (C:=C) (row:=r) (by
     obtain⟨u,hu,hc⟩:=h
     rcases List.mem_cons.1 hu with e | e
     · subst e;exact absurd hc hx
     · exact⟨u,e,hc⟩)
    refine⟨i+1,u,by simpa using h1,h2,fun j y hj hy=>?_⟩
    cases j with
    | zero=>
     have:x=y:=by simpa using hy
     subst this;exact hx
    | succ j=>exact h3 j y (by omega) (by simpa using hy)
theorem own_idx {g:Parity}{n:Nat}(h:GOk g n){v:Int}(hv:Xn n v):idx g.Arena.Owner v=some (b2i ((gI g).own v)):=by
 obtain⟨o,ho⟩:=idx_some (xs:=g.Arena.Owner) (i:=v) hv.1 (by have:=h.lo;have:=hv.2;omega)
 rw[ho]
 show _=some (b2i (ownL g.Arena.Owner v))
 unfold ownL
 rw[ho]
 rcases h.ow v o ho with rfl | rfl <;> rfl
end Go.Proofs.YtmiilifclnanlaaGreat
set_option linter.unusedVariables false
set_option linter.unusedSimpArgs false
namespace Go.Proofs.YtmiilifclnanlaaGreat
open Go Go.Wk Go.Proofs
open Classical
structure BF (row:Int→List Int) (Y S0 Base Src:Int→Prop) (n:Nat) (cur:Int→List Int→Prop) (todo:List Int) (out:List Bool):Prop where
 len:out.length=n
 sound:∀x,In out x→Src x
 base:∀x,Base x→In out x
 tod:∀x∈todo,S0 x∨In out x
 clo:∀x,S0 x∨In out x→x∈todo∨(∃T,cur x T∧∀u∈T,Y u→In out u)∨∀u∈row x,Y u→In out u
section
variable {row:Int→List Int}{Y S0 Base Src:Int→Prop}{n:Nat}{cur:Int→List Int→Prop}{todo todo':List Int}{out:List Bool}{c:Int}
def noC:Int→List Int→Prop:=fun _ _=>False
def onC (c:Int) (T:List Int):Int→List Int→Prop:=fun x T'=>x=c∧T'=T
theorem BF.pop (h:BF row Y S0 Base Src n noC todo out) (h1:∀x∈todo,x=c∨x∈todo') (h2:∀x∈todo',x∈todo):BF row Y S0 Base Src n (onC c []) todo' out:=by
 refine⟨h.len,h.sound,h.base,fun x hx=>h.tod x (h2 x hx),fun x hx=>?_⟩
 rcases h.clo x hx with k | ⟨T,k,_⟩ | k
 · rcases h1 x k with e | e
   · exact .inr (.inl ⟨[],⟨e,rfl⟩,fun u hu=>by cases hu⟩)
   · exact .inl e
 · exact k.elim
 · exact .inr (.inr k)
theorem BF.done (h:BF row Y S0 Base Src n (onC c (row c)) todo out):BF row Y S0 Base Src n noC todo out:=by
 refine⟨h.len,h.sound,h.base,h.tod,fun x hx=>?_⟩
 rcases h.clo x hx with k | ⟨T,⟨e1,e2⟩,k⟩ | k
 · exact .inl k
 · subst e1 e2
   exact .inr (.inr k)
 · exact .inr (.inr k)
theorem BF.skip {T:List Int}{u:Int}(h:BF row Y S0 Base Src n (onC c T) todo out) (hu:Y u→In out u):BF row Y S0 Base Src n (onC c (T++[u])) todo out:=by
 refine⟨h.len,h.sound,h.base,h.tod,fun x hx=>?_⟩
 rcases h.clo x hx with k | ⟨T',⟨e1,e2⟩,k⟩ | k
 · exact .inl k
 · subst e1 e2
   refine .inr (.inl ⟨_,⟨rfl,rfl⟩,fun w hw=>?_⟩)
   rcases List.mem_append.1 hw with hw | hw
   · exact k w hw
   · rw[List.mem_singleton]at hw
     subst hw;exact hu
 · exact .inr (.inr k)
theorem BF.mark {T:List Int}{u:Int}{out':List Bool}(h:BF row Y S0 Base Src n (onC c T) todo out) (hs:setI out u true=some out') (hsrc:Src u):BF row Y S0 Base Src n (onC c (T++[u])) (todo++[u]) out':=by
 have hin:∀x,In out' x↔x=u∨In out x:=fun x=>by
  unfold In
  rw[idx_setI hs]
  by_cases e:x=u
  · rw[if_pos e];simp[e]
  · rw[if_neg e];simp[e]
 have hl:out'.length=out.length:=(setI_ok hs).2.2.2 
 refine⟨hl.trans h.len,fun x hx=>?_,fun x hx=>(hin x).2 (.inr (h.base x hx)),fun x hx=>?_,fun x hx=>?_⟩
 · rcases(hin x).1 hx with e | e
   · subst e;exact hsrc
   · exact h.sound x e
 · rcases List.mem_append.1 hx with hx | hx
   · exact(h.tod x hx).imp id fun k=>(hin x).2 (.inr k)
   · rw[List.mem_singleton]at hx
     exact .inr ((hin x).2 (.inl hx))
 · have hx':x=u∨(S0 x∨In out x):=by
    rcases hx with k | k
    · exact .inr (.inl k)
    · rcases(hin x).1 k with e | e
      · exact .inl e
      · exact .inr (.inr e)
   rcases hx' with e | hx'
   · exact .inl (List.mem_append_right _ (by simp[e]))
   · rcases h.clo x hx' with k | ⟨T',⟨e1,e2⟩,k⟩ | k
     · exact .inl (List.mem_append_left _ k)
     · subst e1 e2
       refine .inr (.inl ⟨_,⟨rfl,rfl⟩,fun w hw hy=>(hin w).2 ?_⟩)
       rcases List.mem_append.1 hw with hw | hw
       · exact .inr (k w hw hy)
       · rw[List.mem_singleton]at hw
         exact .inl hw
     · exact .inr (.inr fun w hw hy=>(hin w).2 (.inr (k w hw hy)))
theorem BF.fin (h:BF row Y S0 Base Src n noC [] out) (hmin:∀C:Int→Prop,(∀x,Base x→C x)→(∀x u,S0 x∨C x→u∈row x→Y u→C u)→∀x,Src x→C x) (x:Int):In out x↔Src x:=by
 refine⟨h.sound x,hmin _ h.base (fun y u hy hu hY=>?_) x⟩
 rcases h.clo y hy with k | ⟨T,k,_⟩ | k
 · cases k
 · exact k.elim
 · exact k u hu hY
noncomputable def msr (n:Nat) (todo:List Int) (out:List Bool):Nat:=todo.length+2 * (n-cnt out)
theorem msr_mark {out':List Bool}{u:Int}(hl:out.length=n) (hs:setI out u true=some out') (hn:¬In out u):msr n (todo++[u]) out'+1≤msr n todo out:=by
 have hin:∀x,In out' x↔x=u∨In out x:=fun x=>by
  unfold In
  rw[idx_setI hs]
  by_cases e:x=u
  · rw[if_pos e];simp[e]
  · rw[if_neg e];simp[e]
 have hl':out'.length=out.length:=(setI_ok hs).2.2.2 
 have h1:=cnt_lt (A:=out) (B:=out') (fun v hv=>(hin v).2 (.inr hv)) ((hin u).2 (.inl rfl)) hn
 have h2:=cnt_le out'
 unfold msr
 rw[List.length_append]
 simp only[List.length_cons,List.length_nil]
 omega
variable {N:List (List Int)}{low:List Bool}(hR:∀v:Int,0≤v→v<n→idx N v=some (row v)∧(row v).length≤10000∧∀u∈row v,0≤u∧u<n) (hn:n≤256) (hl:low.length=n) (hY:∀v,In low v↔Y v) (hstep:∀x u,S0 x∨Src x→u∈row x→Y u→Src u)
include hR hn hl hY hstep
omit hn in
theorem s_beyond_row (c0:0≤c) (c1:c<n) (h:BF row Y S0 Base Src n (onC c []) todo out) (hc:S0 c∨In out c) (htl:todo.length≤100000):∃i todo' out',whileM (s_l1Beyond_b2 N low c) (2 ^ 64) (todo,0,out)=some (.inr (todo',i,out'))∧BF row Y S0 Base Src n noC todo' out'∧msr n todo' out'≤msr n todo out:=by
 obtain⟨r1,r2,r3⟩:=hR c c0 c1
 obtain⟨o,w1,w2⟩:=while_out (f:=s_l1Beyond_b2 N low c) (fun j (t:List Int×Int×List Bool)=>t.2.1=(j:Int)∧j≤(row c).length∧BF row Y S0 Base Src n (onC c ((row c).take j)) t.1 t.2.2∧(∀x,In out x→In t.2.2 x)∧msr n t.1 t.2.2≤msr n todo out∧t.1.length≤100000+j) (fun _=>False) (fun t=>BF row Y S0 Base Src n (onC c (row c)) t.1 t.2.2∧msr n t.1 t.2.2≤msr n todo out) (row c).length (fun j t ⟨a1,a2,a3,a4,a5,a6⟩=>by
  obtain⟨q,j',t⟩:=t
  dsimp only at a1 a3 a4 a5 a6
  subst a1
  unfold s_l1Beyond_b2
  dsimp only
  rw[r1,Option.bind_some]
  by_cases hlt:j<(row c).length
  · have hw:IntKind.i64.wrap ((j:Int)+1)=((j+1:Nat):Int):=by rw[wr' (by omega) (by omega)];omega
    have hu:(row c)[j]? =some (row c)[j]:=List.getElem?_eq_getElem hlt
    generalize(row c)[j]=u at hu
    obtain⟨u0,u1⟩:=r3 u (List.mem_of_getElem? hu)
    have htk:(row c).take (j+1)=(row c).take j++[u]:=by rw[List.take_add_one,hu];rfl
    have htl':=a3.len
    rw[decide_eq_true (show(j:Int)<((row c).length:Int) by omega),cond_true,Option.bind_some,idx_nat,hu,Option.bind_some,In_get (B:=low) u0 (by omega),Option.bind_some,In_get (B:=t) u0 (by omega)]
    by_cases hy:In low u
    · by_cases ho:In t u
      · simp only[decide_eq_true hy,decide_eq_true ho,cond_true,Option.bind_some,Bool.not_true,cond_false,hw]
        exact⟨_,rfl,hlt,rfl,by omega,by rw[htk];exact a3.skip fun _=>ho,a4,a5,by dsimp only;omega⟩
      · obtain⟨t',ht',_⟩:=setI_some (xs:=t) (i:=u) true u0 (by omega)
        have hm:=msr_mark (n:=n) (todo:=q) htl' ht' ho
        have hcm:S0 c∨Src c:=hc.imp id fun k=>a3.sound c (a4 c k)
        simp only[decide_eq_true hy,decide_eq_false ho,cond_true,Option.bind_some,Bool.not_false,ht',app1 (show q.length≤10000000000 by omega) (show Nat.ble 8 1024=true from rfl),hw]
        refine⟨_,rfl,hlt,rfl,by omega,by rw[htk];exact a3.mark ht' (hstep c u hcm (List.mem_of_getElem? hu) ((hY u).1 hy)),fun x hx=>?_,by dsimp only;omega,by simp;omega⟩
        have:=a4 x hx
        dsimp only at this ⊢
        unfold In at this ⊢
        rw[idx_setI ht']
        by_cases e:x=u
        · rw[if_pos e]
        · rw[if_neg e];exact this
    · simp only[decide_eq_false hy,cond_false,Option.bind_some,hw]
      exact⟨_,rfl,hlt,rfl,by omega,by rw[htk];exact a3.skip fun hY'=>absurd ((hY u).2 hY') hy,a4,a5,by dsimp only;omega⟩
  · rw[decide_eq_false (by omega),cond_false]
    have e:j=(row c).length:=by omega
    subst e
    rw[List.take_length]at a3
    exact⟨_,rfl,a3,a5⟩) (2 ^ 64) 0 (todo,0,out) (by omega) ⟨rfl,by omega,h,fun _ h=>h,Nat.le_refl _,by omega⟩ (by omega)
 match o,w2 with
 | .inr (q,i,t),w2=>exact⟨i,q,t,w1,w2.1.done,w2.2⟩
theorem s_beyond (hN:N.length=n) (c0:0≤c) (c1:c<n) (hS:∀x,S0 x↔x=c) (hB:∀x,¬Base x) (hmin:∀C:Int→Prop,(∀x,Base x→C x)→(∀x u,S0 x∨C x→u∈row x→Y u→C u)→∀x,Src x→C x):∃R,s_l1Beyond N low [c]=some R∧R.length=n∧∀x,In R x↔Src x:=by
 unfold s_l1Beyond
 rw[hN,mkS_nat (by omega) rfl,Option.bind_some,show s_l1Copy [c]=some [c] from by unfold s_l1Copy;rw[appL (by simp) rfl];rfl,Option.bind_some]
 have h0:∀x,¬In (List.replicate n false) x:=fun x hx=>by
  obtain⟨x0,x1⟩:=In_of (n:=n) (by simp) hx
  unfold In at hx
  rw[idx_int x0,List.getElem?_replicate,if_pos (by omega)]at hx
  cases hx
 obtain⟨o,w1,w2⟩:=while_out (f:=s_l1Beyond_b0 N low) (fun j (t:List Int×List Bool)=>BF row Y S0 Base Src n noC t.1 t.2∧j+msr n t.1 t.2≤3 * n+1) (fun _=>False) (fun t=>BF row Y S0 Base Src n noC [] t.2) (3 * n+1) (fun j t ⟨a1,a2⟩=>by
  obtain⟨q,t⟩:=t
  dsimp only at a1 a2
  unfold s_l1Beyond_b0
  dsimp only
  have hq:q.length≤1000:=by unfold msr at a2;omega
  rcases List.eq_nil_or_concat q with e | ⟨q',y,e⟩
  · subst e
    simp only[List.length_nil,Int.natCast_zero,Int.lt_irrefl,decide_false,cond_false]
    exact⟨_,rfl,a1⟩
  · rw[List.concat_eq_append]at e
    subst e
    have hlen:(q'++[y]).length=q'.length+1:=by simp
    have hw:IntKind.i64.wrap (((q'++[y]).length:Int)-1)=(q'.length:Int):=by rw[hlen,wr' (by omega) (by omega)];omega
    have hget:idx (q'++[y]) (q'.length:Int)=some y:=by rw[idx_nat,List.getElem?_append_right (Nat.le_refl _),Nat.sub_self];rfl
    have hsub:subS (q'++[y]) 0 (q'.length:Int)=some q':=by
     unfold subS
     rw[if_pos ⟨by omega,by omega,by rw[hlen];omega⟩]
     simp
    have hyr:0≤y∧y<n:=by
     rcases a1.tod y (by simp) with k | k
     · rw[(hS y).1 k];exact⟨c0,c1⟩
     · exact In_of a1.len k
    rw[decide_eq_true (show(0:Int)<((q'++[y]).length:Int) by omega),cond_true,hw,hget,Option.bind_some,hsub,Option.bind_some]
    obtain⟨i,q2,t2,k1,k2,k3⟩:=s_beyond_row hR hl hY hstep hyr.1 hyr.2 (a1.pop (c:=y) (todo':=q') (fun x hx=>by
     rcases List.mem_append.1 hx with h | h
     · exact .inr h
     · exact .inl (by simpa using h)) (fun x hx=>List.mem_append_left _ hx)) (a1.tod y (by simp)) (by omega)
    rw[k1,Option.bind_some,aft_inr]
    refine⟨_,rfl,?_,k2,?_⟩
    · unfold msr at a2;omega
    · dsimp only
      unfold msr at a2 k3 ⊢
      omega) (2 ^ 64) 0 ([c],List.replicate n false) (by omega) ⟨⟨by simp,fun x hx=>absurd hx (h0 x),fun x hx=>absurd hx (hB x),fun x hx=> .inl ((hS x).2 (by simpa using hx)),fun x hx=> .inl (by
    rcases hx with k | k
    · rw[(hS x).1 k];simp
    · exact absurd k (h0 x))⟩,by unfold msr;simp;omega⟩ (by omega)
 match o,w2 with
 | .inr (q,t),w2=>
  rw[w1,Option.bind_some,aft_inr]
  exact⟨t,rfl,w2.len,w2.fin hmin⟩
end
end Go.Proofs.YtmiilifclnanlaaGreat
set_option linter.unusedVariables false
set_option linter.unusedSimpArgs false
namespace Go.Proofs.YtmiilifclnanlaaGreat
open Go Go.Wk Go.Proofs
open Classical
theorem s_region {n:Nat}{W:Int→Prop}(hn:n≤256) (q:Bool):∃B,s_l7Region (wonL n W) (b2i q)=some B∧B.length=n∧In B=Par.Rg (Xn n) (wB W) q:=by
 have hl:=wonL_len n W
 unfold s_l7Region
 rw[hl,mkS_nat (by omega) rfl,Option.bind_some]
 obtain⟨s,h1,h2,h3⟩:=fillB (f:=s_l7Region_b0 (wonL n W) (b2i q)) (Par.Rg (Xn n) (wB W) q) n (s0:=List.replicate n false) (by simp) (fun j s hj hs=>by
  have hx:Xn n (j:Int):=⟨by omega,by omega⟩
  unfold s_l7Region_b0
  rw[wonL_idx hx,Option.bind_some,b2i_beq]
  have:(wB W (j:Int)==q)=decide (Par.Rg (Xn n) (wB W) q (j:Int)):=by
   rw[Bool.eq_iff_iff,decide_eq_true_iff]
   unfold Par.Rg
   simp[hx]
  rw[this]) (fun v hv=>hv.1)
 rw[h1,Option.bind_some,aft_inr]
 exact⟨s,rfl,h2,funext fun v=>propext (h3 v)⟩
theorem i_region {n:Nat}{W:Int→Prop}(hn:n≤256) (p:List Int) (q:Bool):∃L,i_RegionOf ⟨wonL n W,p⟩ (b2i q)=some L∧L.length≤n∧(∀v,v∈L↔Par.Rg (Xn n) (wB W) q v):=by
 have hl:=wonL_len n W
 unfold i_RegionOf
 dsimp only
 rw[hl,decide_eq_false (by omega),cond_false]
 obtain⟨s,h1,h2,h3⟩:=cnt_inv (f:=i_RegionOf_b0 ⟨wonL n W,p⟩ (b2i q)) (fun j (s:List Int)=>s.length≤j∧∀v,v∈s↔Par.Rg (Xn n) (wB W) q v∧v<j) n (s:=[]) ⟨by simp,fun v=>⟨fun h=>absurd h (by simp),fun h=>by have:=h.1.1.1;omega⟩⟩ (fun j s hj ⟨q1,q2⟩=>by
  have hx:Xn n (j:Int):=⟨by omega,by omega⟩
  unfold i_RegionOf_b0
  dsimp only
  rw[wonL_idx hx,Option.bind_some,b2i_beq,app1 (by omega) rfl]
  cases hc:(wB W (j:Int)==q) with
  | true=>
   have hc:wB W (j:Int)=q:=by simpa using hc
   refine⟨_,rfl,by simp;omega,fun v=>?_⟩
   rw[List.mem_append,q2,List.mem_singleton]
   constructor
   · rintro(⟨h1,h2⟩ | rfl)
     · exact⟨h1,by omega⟩
     · exact⟨⟨hx,hc⟩,by omega⟩
   · rintro⟨h1,h2⟩
     by_cases e:v=j
     · exact .inr e
     · exact .inl ⟨h1,by omega⟩
  | false=>
   have hc:¬wB W (j:Int)=q:=by simpa using hc
   refine⟨_,rfl,by omega,fun v=>?_⟩
   rw[q2]
   constructor
   · rintro⟨h1,h2⟩
     exact⟨h1,by omega⟩
   · rintro⟨h1,h2⟩
     have:v≠j:=fun e=>hc (by rw[← e];exact h1.2)
     exact⟨h1,by omega⟩)
 rw[h1,Option.bind_some,aft_inr]
 exact⟨s,rfl,h2,fun v=>by rw[h3];exact⟨fun h=>h.1,fun h=>⟨h,h.1.2⟩⟩⟩
section
variable {g:Parity}{n:Nat}(hp:parityOk g=true) (hn:n=g.Prio.length){W:Int→Prop}(hW:Par.Sol (gI g) (Xn n) false W)
include hp hn hW
omit hW in
theorem s_pick {P:List (List Int)}(hP:PrevT g.Arena.Next n n P){k:List Int}(hk:k.length=n) (hI:Par.PInv (gI g) (Xn n) (wB W) (pkL k)){v:Int}(hv:Xn n v) (ho:(gI g).own v=wB W v){row:List Int}(hr:idx g.Arena.Next v=some row){i:Nat}{u:Int}(h1:row[i]? =some u)
 (h2:wB W u=wB W v∧Par.Dom (Par.pickG (gI g) (Par.updF (pkL k) v u)) (Par.Rg (Xn n) (wB W) (wB W v)) (wB W v) (Par.Rg (Xn n) (wB W) (wB W v)))
 (h3:∀(j:Nat) y,j<i→row[j]? =some y→¬(wB W y=wB W v∧Par.Dom (Par.pickG (gI g) (Par.updF (pkL k) v y)) (Par.Rg (Xn n) (wB W) (wB W v)) (wB W v) (Par.Rg (Xn n) (wB W) (wB W v))))
 {B:List Bool} (hB:B.length=n) (hBR:In B=Par.Rg (Xn n) (wB W) (wB W v)):
 ∃k',s_l7Pick ⟨g.Arena.Owner,g.Prio,g.Arena.Next,P,k⟩ B v=some (u,k')∧k'.length=n∧pkL k'=Par.updF (pkL k) v u:=by
 have h:=GOk.of hp
 rw[← hn]at h
 have hnd:Par.NoDead (gI g) (Xn n):=noDead_all h (rows_some hp)
 obtain⟨r1,r2,r3⟩:=h.row v row hr
 have hil:=(List.getElem?_eq_some_iff.1 h1).1
 have hn256:=h.n256
 unfold s_l7Pick
 obtain⟨o,w1,w2⟩:=while_out (f:=s_l7Pick_b0 ⟨g.Arena.Owner,g.Prio,g.Arena.Next,P,k⟩ B v) (fun j (t:Int×List Int)=>t.1=(j:Int)∧j≤i∧t.2.length=n∧∃z,pkL t.2=Par.updF (pkL k) v z) (fun(t:Int×List Int)=>t.1=u∧t.2.length=n∧pkL t.2=Par.updF (pkL k) v u) (fun _=>False) i (fun j t ⟨a1,a2,a3,z,a4⟩=>by
  obtain⟨j',t⟩:=t
  dsimp only at a1 a3 a4
  subst a1
  have hjl:j<row.length:=by omega
  have hy:row[j]? =some row[j]:=List.getElem?_eq_getElem hjl
  generalize row[j]=y at hy
  obtain⟨y0,y1⟩:=r3 y (List.mem_of_getElem? hy)
  have hyX:Xn n y:=⟨y0,y1⟩
  have hyE:(gI g).E v y:=by show y∈rowI g.Arena v;rw[rowI_eq hr];exact List.mem_of_getElem? hy
  unfold s_l7Pick_b0
  dsimp only
  rw[hr,Option.bind_some,decide_eq_true (show(j:Int)<(row.length:Int) by omega),cond_true,Option.bind_some,idx_nat,hy,Option.bind_some,In_get (B:=B) y0 (by omega),Option.bind_some]
  have hBy:decide (In B y)=(wB W y==wB W v):=by
   rw[Bool.eq_iff_iff,decide_eq_true_iff,hBR]
   unfold Par.Rg
   simp[hyX]
  have hw:IntKind.i64.wrap ((j:Int)+1)=((j+1:Nat):Int):=by rw[wr' (by omega) (by omega)];omega
  rw[hBy]
  cases hc:(wB W y==wB W v) with
  | false=>
   simp only[Bool.not_false,cond_true,hw]
   have hne:¬wB W y=wB W v:=by simpa using hc
   have:j≠i:=fun e=>by subst e;rw[h1]at hy;cases hy;exact hne h2.1
   exact⟨_,rfl,by omega,rfl,by omega,a3,z,a4⟩
  | true=>
   have hwy:wB W y=wB W v:=by simpa using hc
   obtain⟨old,hold⟩:=idx_some (xs:=t) (i:=v) hv.1 (by have:=hv.2;omega)
   obtain⟨t',ht',htl⟩:=setI_some (xs:=t) (i:=v) y hv.1 (by have:=hv.2;omega)
   have hpk:pkL t'=Par.updF (pkL k) v y:=by rw[pkL_set ht',a4,updF_updF]
   have htn:t'.length=n:=by omega
   have hg:gS ⟨g.Arena.Owner,g.Prio,g.Arena.Next,P,t'⟩=Par.pickG (gI g) (Par.updF (pkL k) v y):=by rw[gS_pick h P htn,hpk]
   have hN:Par.NoDead (gS ⟨g.Arena.Owner,g.Prio,g.Arena.Next,P,t'⟩) (In B):=by
    rw[hg,hBR]
    exact hI.noDead hnd hyE hyX hwy _
   have hh:=s_holds (h.wfS hP htn) h.pri hB hN (wB W v)
   rw[hg,hBR]at hh
   simp only[Bool.not_true,cond_false]
   rw[hold,Option.bind_some,ht',Option.bind_some,own_idx h hv,ho,Option.bind_some,hh,Option.bind_some]
   by_cases hd:Par.Dom (Par.pickG (gI g) (Par.updF (pkL k) v y)) (Par.Rg (Xn n) (wB W) (wB W v)) (wB W v) (Par.Rg (Xn n) (wB W) (wB W v))
   · rw[decide_eq_true hd,cond_true]
     have:¬j<i:=fun hlt=>h3 j y hlt hy ⟨hwy,hd⟩
     have:j=i:=by omega
     subst this
     rw[h1]at hy;cases hy
     exact⟨_,rfl,rfl,htn,hpk⟩
   · rw[decide_eq_false hd,cond_false,hw]
     have:j≠i:=fun e=>by subst e;rw[h1]at hy;cases hy;exact hd h2.2
     exact⟨_,rfl,by omega,rfl,by omega,htn,y,hpk⟩) (2 ^ 64) 0 (0,k) (by omega) ⟨rfl,by omega,hk,pkL k v,(updF_self rfl).symm⟩ (by omega)
 match o,w2 with
 | .inl t,w2=>
  obtain⟨b1,b2,b3⟩:=w2
  obtain⟨t1,t2⟩:=t
  dsimp only at b1 b2 b3
  subst b1
  rw[w1,Option.bind_some,aft_inl]
  exact⟨t2,rfl,b2,b3⟩
omit hW in
theorem i_pick {k:List Int}(hk:k.length=n) (hI:Par.PInv (gI g) (Xn n) (wB W) (pkL k)){v:Int}(hv:Xn n v) (hkv:pkL k v= -1){row:List Int}(hr:idx g.Arena.Next v=some row){i:Nat}{u:Int}(h1:row[i]? =some u)
 (h2:wB W u=wB W v∧Par.Dom (Par.pickG (gI g) (Par.updF (pkL k) v u)) (Par.Rg (Xn n) (wB W) (wB W v)) (wB W v) (Par.Rg (Xn n) (wB W) (wB W v)))
 (h3:∀(j:Nat) y,j<i→row[j]? =some y→¬(wB W y=wB W v∧Par.Dom (Par.pickG (gI g) (Par.updF (pkL k) v y)) (Par.Rg (Xn n) (wB W) (wB W v)) (wB W v) (Par.Rg (Xn n) (wB W) (wB W v))))
 {L:List Int} (hL:∀v',v'∈L↔Par.Rg (Xn n) (wB W) (wB W v) v'):
 ∃k',cntM (i_planFrom_b2 g (wonL n W) v L row) row.length 0 k=some (.inr k')∧k'.length=n∧pkL k'=Par.updF (pkL k) v u:=by
 have h:=GOk.of hp
 rw[← hn]at h
 have hnd:Par.NoDead (gI g) (Xn n):=noDead_all h (rows_some hp)
 obtain⟨r1,r2,r3⟩:=h.row v row hr
 have hil:=(List.getElem?_eq_some_iff.1 h1).1
 have hn256:=h.n256
 have hLe:(fun v'=>v'∈L)=Par.Rg (Xn n) (wB W) (wB W v):=funext fun v'=>propext (hL v')
 obtain⟨o,w1,w2⟩:=cnt_out0 (f:=i_planFrom_b2 g (wonL n W) v L row) (fun j (t:List Int)=>j≤i∧t.length=n∧pkL t=pkL k) (fun _=>False) (fun(t:List Int)=>t.length=n∧pkL t=Par.updF (pkL k) v u) row.length (s:=k) ⟨by omega,hk,rfl⟩ (fun j t hjl ⟨a2,a3,a4⟩=>by
  have hy:row[j]? =some row[j]:=List.getElem?_eq_getElem hjl
  generalize row[j]=y at hy
  obtain⟨y0,y1⟩:=r3 y (List.mem_of_getElem? hy)
  have hyX:Xn n y:=⟨y0,y1⟩
  have hyE:(gI g).E v y:=by show y∈rowI g.Arena v;rw[rowI_eq hr];exact List.mem_of_getElem? hy
  unfold i_planFrom_b2
  rw[idx_nat,hy,Option.bind_some,wonL_idx hyX,Option.bind_some,wonL_idx hv,Option.bind_some]
  have hbne:(b2i (wB W y) !=b2i (wB W v))= !(wB W y==wB W v):=by unfold bne;rw[b2i_beq]
  rw[hbne]
  cases hc:(wB W y==wB W v) with
  | false=>
   simp only[Bool.not_false,cond_true]
   have hne:¬wB W y=wB W v:=by simpa using hc
   have:j≠i:=fun e=>by subst e;rw[h1]at hy;cases hy;exact hne h2.1
   exact⟨_,rfl,by omega,a3,a4⟩
  | true=>
   have hwy:wB W y=wB W v:=by simpa using hc
   obtain⟨old,hold⟩:=idx_some (xs:=t) (i:=v) hv.1 (by have:=hv.2;omega)
   obtain⟨t',ht',htl⟩:=setI_some (xs:=t) (i:=v) y hv.1 (by have:=hv.2;omega)
   obtain⟨old',hold'⟩:=idx_some (xs:=t') (i:=v) hv.1 (by have:=hv.2;omega)
   obtain⟨t'',ht'',htl'⟩:=setI_some (xs:=t') (i:=v) (-1) hv.1 (by have:=hv.2;omega)
   have hpk:pkL t'=Par.updF (pkL k) v y:=by rw[pkL_set ht',a4]
   have hpk':pkL t''=pkL k:=by rw[pkL_set ht'',hpk,updF_updF,updF_self hkv]
   have htn:t'.length=n:=by omega
   obtain⟨g',e1,e2,e3⟩:=only_eq hp hn htn (fun x hx=>by
    rw[hpk]at hx ⊢
    unfold Par.updF at hx ⊢
    by_cases e:x=v
    · rw[if_pos e];subst e;exact hyE
    · rw[if_neg e]at hx ⊢
      exact(hI.pick x hx).2.2.1)
   rw[hpk]at e3
   have hN:Par.NoDead (gI g') (fun v'=>v'∈L):=by
    rw[e3,hLe]
    exact hI.noDead hnd hyE hyX hwy _
   obtain⟨E,O,W',f1,f2,f3,f4,f5,f6⟩:=wonIn_eq e2 (L:=L) (fun v' hv'=>((hL v').1 hv').1) hN
   rw[e3,hLe]at f2
   have hh:=Par.hold_iff (q:=wB W v) f2
   simp only[Bool.not_true,cond_false]
   rw[hold,Option.bind_some,ht',Option.bind_some,e1,Option.bind_some,f1,Option.bind_some,Option.bind_some]
   dsimp only
   have key:(bif !wB W v then((O.length:Int)==0) else((E.length:Int)==0))=decide (Par.Dom (Par.pickG (gI g) (Par.updF (pkL k) v y)) (Par.Rg (Xn n) (wB W) (wB W v)) (wB W v) (Par.Rg (Xn n) (wB W) (wB W v))):=by
    rw[Bool.eq_iff_iff,decide_eq_true_iff,← hh]
    cases hq:wB W v with
    | false=>
     simp only[Bool.not_false,cond_true]
     rw[show(((O.length:Int)==0)=true)↔O=[] from by simp]
     constructor
     · intro e x hx
       refine⟨fun _=>trivial,fun _=>?_⟩
       apply Classical.byContradiction
       intro hn'
       have:=(f4 x).2 ⟨(hL x).2 (by rw[hq];exact hx),hn'⟩
       rw[e]at this;cases this
     · intro ha
       cases hO:O with
       | nil=>rfl
       | cons x xs=>
        obtain⟨c1,c2⟩:=(f4 x).1 (by rw[hO];exact List.mem_cons_self ..)
        exact absurd ((ha x (by have:=(hL x).1 c1;rwa [hq]at this)).2 trivial) c2
    | true=>
     simp only[Bool.not_true,cond_false]
     rw[show(((E.length:Int)==0)=true)↔E=[] from by simp]
     constructor
     · intro e x hx
       refine⟨fun hw'=>?_,fun h'=>absurd h' (by decide)⟩
       have:=(f3 x).2 hw'
       rw[e]at this;cases this
     · intro ha
       cases hE:E with
       | nil=>rfl
       | cons x xs=>
        have c1:=(f3 x).1 (by rw[hE];exact List.mem_cons_self ..)
        have:=(ha x (by have:=f2.sub x c1;rwa [hq]at this)).1 c1
        cases this
   have e0:∀(a b q:Bool) {β:Type} (F:Bool→Option β),(Option.bind (bif (b2i q==0) then some a else some false) fun p88=>Option.bind (bif p88 then some true else Option.bind (some (b2i q)) fun x92=>Option.bind (bif (x92==1) then some b else some false) fun p99=>some p99) F)=F (bif !q then a else b):=by
    intro a b q β F
    cases q <;> cases a <;> cases b <;> rfl
   rw[e0,key]
   by_cases hd:Par.Dom (Par.pickG (gI g) (Par.updF (pkL k) v y)) (Par.Rg (Xn n) (wB W) (wB W v)) (wB W v) (Par.Rg (Xn n) (wB W) (wB W v))
   · rw[decide_eq_true hd,cond_true]
     have:¬j<i:=fun hlt=>h3 j y hlt hy ⟨hwy,hd⟩
     have:j=i:=by omega
     subst this
     rw[h1]at hy;cases hy
     exact⟨_,rfl,htn,hpk⟩
   · rw[decide_eq_false hd,cond_false,hold',Option.bind_some,ht'',Option.bind_some]
     have:j≠i:=fun e=>by subst e;rw[h1]at hy;cases hy;exact hd h2.2
     exact⟨_,rfl,by omega,by omega,hpk'⟩)
 match o,w2 with
 | .inr t,w2=>
  rcases w2 with ⟨hle,_⟩ | w2
  · omega
  · exact⟨t,w1,w2.1,w2.2⟩
omit hp hn hW in
theorem picks_none {n:Nat}(v:Int):pkL (List.replicate n (-1)) v= -1:=by
 unfold pkL
 cases h:idx (List.replicate n (-1:Int)) v with
 | none=>rfl
 | some x=>
  obtain⟨v0,v1⟩:=idx_rng h
  rw[idx_int v0,List.getElem?_replicate]at h
  split at h
  · cases h;rfl
  · cases h
omit hW in
theorem keeps_none {A:List Int}(hA:s_l7Won g=some A) (hAl:A.length≤256):s_KeepsWon g (List.replicate n (-1))=some true:=by
 have h:=GOk.of hp
 rw[← hn]at h
 obtain⟨h1,h2,h3,h4,h5⟩:=parityOk_spec hp
 have hO:s_OnlyBy g (List.replicate n (-1))=some (g,true):=by
  unfold s_OnlyBy
  rw[s_ParityOk_eq,hp,Option.bind_some]
  have hP:s_l7Picks g (List.replicate n (-1))=some true:=by
   unfold s_l7Picks
   rw[List.length_replicate,← hn]
   have:=cnt_all0 (f:=s_l7Picks_b0 g (List.replicate n (-1))) (r:=false) (fun _:Int=>true) (xs:=List.replicate n (-1)) (n:=n) (by simp) (fun i x hx=>by
    unfold s_l7Picks_b0
    have hx':x= -1:=by
     rw[List.getElem?_replicate]at hx
     split at hx
     · cases hx;rfl
     · cases hx
    rw[idx_nat,hx,Option.bind_some,hx'];rfl)
   rw[this]
   simp only[bne_self_eq_false,cond_false,List.all_eq_true,implies_true,if_true,Option.bind_some,aft_inr]
  rw[hP]
  simp only[Bool.not_true,cond_false,Option.bind_some]
  rw[s_copy (by have:=h.lo;have:=h.n256;omega),Option.bind_some,s_copy (by omega),Option.bind_some,List.length_replicate]
  obtain⟨s,e1,e2⟩:=cnt_inv (f:=s_OnlyBy_b0 g (List.replicate n (-1))) (fun j (s:List (List Int))=>s=g.Arena.Next.take j) n (s:=[]) rfl (fun j s hj hs=>by
   subst hs
   have hx:g.Arena.Next[j]? =some (g.Arena.Next[j]'(by have:=h.ln;omega)):=List.getElem?_eq_getElem (by have:=h.ln;omega)
   generalize g.Arena.Next[j]'(by have:=h.ln;omega)=row at hx
   obtain⟨r1,_,_⟩:=h.row (j:Int) row (by rw[idx_nat];exact hx)
   have hk:idx (List.replicate n (-1:Int)) (j:Int)=some (-1):=by rw[idx_nat,List.getElem?_replicate,if_pos hj]
   unfold s_OnlyBy_b0
   rw[idx_nat,hx,Option.bind_some,s_copy (by omega),Option.bind_some,hk,Option.bind_some]
   simp only[show decide ((0:Int)≤ -1)=false from rfl,cond_false,Option.bind_some]
   rw[app1 (by rw[List.length_take];omega) rfl,Option.bind_some]
   refine⟨_,rfl,?_⟩
   rw[List.take_add_one,hx];rfl)
  rw[e1,e2,Option.bind_some,aft_inr,List.take_of_length_le (by have:=h.ln;omega)]
 unfold s_KeepsWon
 rw[hO,Option.bind_some]
 dsimp only
 rw[cond_true,hA,Option.bind_some,Option.bind_some]
 have hS:s_l7Same A A=some true:=by
  unfold s_l7Same
  have:=cnt_all0 (f:=s_l7Same_b0 A A) (r:=false) (fun _:Int=>true) (xs:=A) (n:=A.length) rfl (fun i x hx=>by
   unfold s_l7Same_b0
   rw[idx_nat,hx,Option.bind_some,Option.bind_some]
   simp)
  rw[this]
  simp only[bne_self_eq_false,cond_false,List.all_eq_true,implies_true,if_true,Option.bind_some,aft_inr]
 rw[hS];rfl
theorem solve_same (hA:s_l7Won g=some (wonL n W)):∃k,s_PlanFrom g (List.replicate n (-1))=some (⟨wonL n W,k⟩,true)∧i_planFrom g (List.replicate n (-1)) (wonL n W)=some ⟨wonL n W,k⟩∧k.length=n∧(∀v x,idx k v=some x→x= -1∨0≤x)∧Par.Ans (gI g) (Xn n) (wB W) (pkL k):=by
 have h:=GOk.of hp
 rw[← hn]at h
 have hn256:=h.n256
 have hwl:=wonL_len n W
 obtain⟨P,p1,p2⟩:=s_of_ok h
 obtain⟨B0,c1,c2,c3⟩:=s_region (W:=W) hn256 false
 obtain⟨B1,d1,d2,d3⟩:=s_region (W:=W) hn256 true
 have c1:s_l7Region (wonL n W) 0=some B0:=c1
 have d1:s_l7Region (wonL n W) 1=some B1:=d1
 unfold s_PlanFrom i_planFrom
 rw[keeps_none hp hn hA (by omega),Option.bind_some,hA,p1,List.length_replicate,appL (by simp;omega) rfl]
 simp only[Bool.not_true,cond_false,Option.bind_some,List.nil_append,List.length_replicate,hwl]
 obtain⟨s0,e1,e2⟩:=cnt_inv (f:=s_PlanFrom_b0 g (List.replicate n (-1)) (wonL n W)) (fun j (s:List Int)=>s=List.replicate n (-1)) n (s:=List.replicate n (-1)) rfl (fun j s hj hs=>by
  subst hs
  have hk:idx (List.replicate n (-1:Int)) (j:Int)=some (-1):=by rw[idx_nat,List.getElem?_replicate,if_pos hj]
  unfold s_PlanFrom_b0
  rw[hk]
  simp only[Option.bind_some,show((-1:Int) != -1)=false from rfl,cond_false]
  rw[setI_nat (by simp;omega),Option.bind_some]
  refine⟨_,rfl,?_⟩
  apply List.ext_getElem?
  intro i
  rw[List.getElem?_set]
  simp only[List.getElem?_replicate,List.length_replicate]
  split
  · rename_i e;subst e;rw[if_pos hj]
  · rfl)
 subst e2
 rw[e1,Option.bind_some,aft_inr,c1,Option.bind_some,d1,Option.bind_some]
 obtain⟨s,t,f1,f2,rfl,f3,f4,f5,f6,f7⟩:=cnt_sim (f:=s_PlanFrom_b2 g (wonL n W) ⟨g.Arena.Owner,g.Prio,g.Arena.Next,P,List.replicate n (-1)⟩ B0 B1) (g:=i_planFrom_b0 g (wonL n W)) (fun j (s t:List Int)=>s=t∧s.length=n∧Par.PInv (gI g) (Xn n) (wB W) (pkL s)∧(∀i:Nat,j≤i→pkL s i= -1)∧(∀v,Xn n v→v<j→(gI g).own v=wB W v→0≤pkL s v)∧(∀v x,idx s v=some x→x= -1∨0≤x)) n (s:=List.replicate n (-1)) (t:=List.replicate n (-1)) ⟨rfl,by simp,Par.PInv.start hW (fun v _=>wB_false) (fun v=>by rw[picks_none];decide),fun i _=>picks_none _,fun v hv hj=>by have:=hv.1;omega,fun v x hx=> .inl (by rw[← pkL_eq hx];exact picks_none v)⟩ (fun j s t hj ⟨e,g1,g2,g3,g4,g5⟩=>by
  subst e
  have hv:Xn n (j:Int):=⟨by omega,by omega⟩
  have hkj:=pkL_get g1 hv.1 hv.2
  rw[g3 j (Nat.le_refl j)]at hkj
  unfold s_PlanFrom_b2 i_planFrom_b0
  rw[hkj,wonL_idx hv,own_idx h hv]
  simp only[Option.bind_some,show decide ((0:Int)≤ -1)=false from rfl,cond_false]
  by_cases ho:(gI g).own (j:Int)=wB W (j:Int)
  · -- a pick
    obtain⟨row,hr⟩:=idx_some (xs:=g.Arena.Next) (i:=(j:Int)) (by omega) (by have:=h.ln;omega)
    obtain⟨u,u1,u2,u3,u4⟩:=g2.ex hv ho (by rw[g3 j (Nat.le_refl j)];decide)
    obtain⟨i,u,h1,h2,h3⟩:=first_of (row:=row) (C:=fun u=>wB W u=wB W (j:Int)∧Par.Dom (Par.pickG (gI g) (Par.updF (pkL s) j u)) (Par.Rg (Xn n) (wB W) (wB W j)) (wB W j) (Par.Rg (Xn n) (wB W) (wB W j))) ⟨u,by have:u∈rowI g.Arena j:=u1;rwa [rowI_eq hr]at this,u3,u4⟩
    have huE:(gI g).E (j:Int) u:=by show u∈rowI g.Arena j;rw[rowI_eq hr];exact List.mem_of_getElem? h1
    have huX:=(E_rng h huE).2
    obtain⟨L,l1,l2,l3⟩:=i_region (W:=W) hn256 [] (wB W (j:Int))
    obtain⟨B,hB1,hB2,hB3⟩:∃B,(bif (b2i (wB W (j:Int))==1) then some B1 else some B0)=some B∧B.length=n∧In B=Par.Rg (Xn n) (wB W) (wB W j):=by
     cases hq:wB W (j:Int) with
     | true=>exact⟨B1,rfl,d2,d3⟩
     | false=>exact⟨B0,rfl,c2,c3⟩
    obtain⟨k',k1,k2,k3⟩:=s_pick hp hn p2 g1 g2 hv ho hr h1 h2 h3 hB2 hB3
    obtain⟨k'',m1,m2,m3⟩:=i_pick hp hn g1 g2 hv (g3 j (Nat.le_refl j)) hr h1 h2 h3 l3
    have:k''=k':=pkL_ext m2 k2 (by rw[m3,k3])
    subst this
    obtain⟨old,hold⟩:=idx_some (xs:=k'') (i:=(j:Int)) (by omega) (by omega)
    obtain⟨z,hz,hzl⟩:=setI_some (xs:=k'') (i:=(j:Int)) u (by omega) (by omega)
    have:z=k'':=pkL_ext (n:=n) (by omega) k2 (by rw[pkL_set hz,k3,updF_updF])
    subst this
    have e1':(b2i (wB W (j:Int)) !=b2i ((gI g).own (j:Int)))=false:=by rw[ho];simp
    have e2':(b2i ((gI g).own (j:Int)) !=b2i (wB W (j:Int)))=false:=by rw[ho];simp
    rw[e1',e2',cond_false,cond_false,Option.bind_some,cond_false,hB1,Option.bind_some,k1,Option.bind_some]
    dsimp only
    rw[hold,Option.bind_some,hz,Option.bind_some,l1,Option.bind_some,hr,Option.bind_some,m1,Option.bind_some,aft_inr]
    refine⟨_,_,rfl,rfl,rfl,k2,?_,fun i' hi'=>?_,fun v hvx hvj hvo=>?_,fun v x hx=>?_⟩
    · rw[k3];exact g2.step hv ho huE huX h2.1 h2.2
    · rw[k3]
      unfold Par.updF
      rw[if_neg (by omega)]
      exact g3 i' (by omega)
    · rw[k3]
      unfold Par.updF
      by_cases e:v=j
      · rw[if_pos e];exact huX.1
      · rw[if_neg e];exact g4 v hvx (by omega) hvo
    · have:=pkL_eq hx
      rw[k3]at this
      unfold Par.updF at this
      by_cases e:v=j
      · rw[if_pos e]at this;rw[← this];exact .inr huX.1
      · rw[if_neg e]at this
        obtain⟨v0,v1⟩:=idx_rng hx
        have hs:=pkL_get g1 v0 (by omega)
        rw[this]at hs
        exact g5 v x hs
  · have e1':(b2i (wB W (j:Int)) !=b2i ((gI g).own (j:Int)))=true:=by
     unfold bne;rw[b2i_beq]
     cases hx:wB W (j:Int) <;> cases hy:(gI g).own (j:Int) <;> simp_all
    have e2':(b2i ((gI g).own (j:Int)) !=b2i (wB W (j:Int)))=true:=by
     unfold bne;rw[b2i_beq]
     cases hx:wB W (j:Int) <;> cases hy:(gI g).own (j:Int) <;> simp_all
    rw[e1',e2',cond_true,cond_true,Option.bind_some,cond_true]
    refine⟨_,_,rfl,rfl,rfl,g1,g2,fun i' hi'=>g3 i' (by omega),fun v hvx hvj hvo=>?_,g5⟩
    have:v≠j:=fun e=>ho (by rw[← e];exact hvo)
    exact g4 v hvx (by omega) hvo)
 rw[f1,f2,Option.bind_some,Option.bind_some,aft_inr,aft_inr,appL (by simp;omega) rfl,Option.bind_some,List.nil_append]
 exact⟨s,rfl,rfl,f3,f7,f4.ans fun v hv hvo=>f6 v hv hv.2 hvo⟩
end
end Go.Proofs.YtmiilifclnanlaaGreat
