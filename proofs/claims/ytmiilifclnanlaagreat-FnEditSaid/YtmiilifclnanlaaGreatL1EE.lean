/- The program's attractor, whole. -/
import Derived.Test.YtmiilifclnanlaaGreatL0EE
set_option linter.unusedVariables false
set_option linter.unusedSimpArgs false
namespace Go.Proofs.YtmiilifclnanlaaGreat
open Go Go.Wk Go.Proofs
section
variable {x:solver}{n:Nat}(wf:WfI x n){B:List Bool}(hB:B.length=n)
include wf hB
omit wf in
theorem certI_len {p:Bool}{goal:Int→Prop}{Q:List Int}(h:Cert (rowI x.game.Arena) (ownL x.game.Arena.Owner) (In B) p goal Q):Q.length≤n:=nodup_lenN n Q h.nd fun v hv=>InI_rng hB (h.mem v hv)
theorem i_attr {goal:List Bool}(hG:goal.length=n) (p:Bool) (hN:Par.NoDead (gI x.game) (In B)) (hsub:∀v,In goal v→In B v):∃A,i_solver_pull x (b2i p) B goal=some A∧A.length=n∧Par.IsAttr (gI x.game) (In B) p (In goal) (In A):=by
 have hn:=wf.n256
 unfold i_solver_pull
 rw[appL (by rw[List.length_nil];omega) rfl,Option.bind_some,hB,mkS_nat (by omega) rfl,Option.bind_some,listI_eq (by omega),Option.bind_some,List.nil_append]
 have hgm:∀v,v∈marksL goal goal.length↔In goal v:=fun v=>mem_marksL
 have hc0:Cert (rowI x.game.Arena) (ownL x.game.Arena.Owner) (In B) p (In goal) (marksL goal goal.length):=⟨marksL_nodup _ _,fun v hv=>hsub v ((hgm v).1 hv),fun k v hk=> .inl ((hgm v).1 (List.mem_of_getElem? hk))⟩
 have ht0:Trap (rowI x.game.Arena) (ownL x.game.Arena.Owner) (In B) p (marksL goal goal.length) (fun _ y=>y∈([]:List Int)):=fun v hv hq=>⟨fun _ y _ _ h=>by simp at h,fun ho=>by
  obtain⟨u,e1,e2⟩:=hN v hv
  exact⟨u,e1,e2,by simp⟩⟩
 obtain⟨o,w1,w2⟩:=while_out (f:=i_solver_pull_b0 x (b2i p) B) (fun j (s:List Int×List Bool×List Int)=>∃T Q,Q=T++s.1∧T.length=j∧Cert (rowI x.game.Arena) (ownL x.game.Arena.Owner) (In B) p (In goal) Q∧(∀v,In goal v→v∈Q)∧Trap (rowI x.game.Arena) (ownL x.game.Arena.Owner) (In B) p Q (fun _ y=>y∈T) ∧
  (s.2.1.length=n∧∀v:Int,0≤v→v<n→idx s.2.1 v=some (decide (v∈Q)))∧(s.2.2.length=n∧∀w,In B w→w∉Q→¬ownL x.game.Arena.Owner w=p→LI x B s.2.2 w (fun y=>y∈T))) (fun _=>False)
  (fun s=>∃Q,Cert (rowI x.game.Arena) (ownL x.game.Arena.Owner) (In B) p (In goal) Q∧(∀v,In goal v→v∈Q)∧Trap (rowI x.game.Arena) (ownL x.game.Arena.Owner) (In B) p Q (fun _ y=>y∈Q)∧(s.2.1.length=n∧∀v:Int,0≤v→v<n→idx s.2.1 v=some (decide (v∈Q)))) n (fun j s ⟨T,Q,a1,a2,a3,a4,a5,a6,a7⟩=>by
  obtain⟨R,out,left⟩:=s
  dsimp only at a1 a6 a7
  have hQn:=certI_len hB a3
  unfold i_solver_pull_b0
  dsimp only
  cases R with
  | nil=>
   rw[List.append_nil]at a1
   subst a1
   simp only[List.length_nil,Int.natCast_zero,Int.lt_irrefl,decide_false,cond_false]
   exact⟨_,rfl,Q,a3,a4,a5,a6⟩
  | cons u R=>
   have hlt:(0:Int)<((u::R).length:Int):=by simp only[List.length_cons];omega
   obtain⟨u0,u1⟩:=InI_rng hB (a3.mem u (by rw[a1];simp))
   obtain⟨P,hP⟩:=idx_some (xs:=x.preds) u0 (by rw[wf.lv];exact u1)
   obtain⟨p1,p2,p3⟩:=wf.prev u P hP
   have e2:idx (u::R) 0=some u:=rfl
   have e3:subS (u::R) 1 ((u::R).length:Int)=some R:=by
    unfold subS
    rw[if_pos ⟨by omega,by simp only[List.length_cons];omega,by omega⟩,Int.toNat_natCast,List.take_length]
    rfl
   have hm0:Mid (rowI x.game.Arena) (ownL x.game.Arena.Owner) (In B) p (In goal) T u [] Q:=by
    have:=Mid.first (T:=T) (u:=u) (R:=R) (a1 ▸ a3) (a1 ▸ a5)
    rwa [← a1]at this
   obtain⟨s',v1,v2⟩:=cnt_inv (f:=i_solver_pull_b2 x (b2i p) B P) (fun k (s:List Int×List Bool×List Int)=>Mid (rowI x.game.Arena) (ownL x.game.Arena.Owner) (In B) p (In goal) T u (P.take k) (T++u::s.1) ∧
    (s.2.1.length=n∧∀v:Int,0≤v→v<n→idx s.2.1 v=some (decide (v∈T++u::s.1)))∧(s.2.2.length=n∧∀w,In B w→w∉T++u::s.1→¬ownL x.game.Arena.Owner w=p→LI x B s.2.2 w (dn T u (P.take k) w))∧(∀v∈Q,v∈T++u::s.1)) P.length (s:=(R,out,left))
    ⟨by dsimp only;rw[← a1];simpa using hm0,by dsimp only;rw[← a1];exact a6,⟨a7.1,fun w hw hq ho=>by
     dsimp only at hq
     rw[← a1]at hq
     exact LI.congr (a7.2 w hw hq ho) fun y _ _=>(dn_self0 (by simp)).symm⟩,fun v hv=>by dsimp only;rw[← a1];exact hv⟩ (fun k s hk ⟨b3,b4,b5,b6⟩=>by
    obtain⟨R',out',left'⟩:=s
    dsimp only at b3 b4 b5 b6
    have hv:P[k]? =some P[k]:=List.getElem?_eq_getElem hk
    generalize P[k]=v at hv
    have hQ'n:=certI_len hB b3.cert
    obtain⟨R2,o2,l2,c1,c2,c3,c4,c5⟩:=i_prev_step wf hB b3 rfl (nodup_take p1 hv) hP hv (by omega) b4 b5
    refine⟨_,c1,?_,c3,?_,fun v hv=>c5 v (b6 v hv)⟩
    · rw[take_one hv];exact c2
    · rw[take_one hv];exact c4)
   obtain⟨R',out',left'⟩:=s'
   obtain⟨c1,c2,c3,c4⟩:=v2
   rw[List.take_length]at c1 c3
   dsimp only at c1 c2 c3 c4
   simp only[hlt,decide_true,cond_true,e2,e3,Option.bind_some,hP,v1,aft_inr]
   have hall:∀v,In B v→u∈rowI x.game.Arena v→v∈P:=fun v hv hu=>by
    rw[p3]
    unfold rowI at hu
    cases hr:idx x.game.Arena.Next v with
    | none=>rw[hr]at hu;simp at hu
    | some r=>rw[hr]at hu;exact⟨r,rfl,hu⟩
   have hjn:j<n:=by
    have:=congrArg List.length a1
    rw[List.length_append,List.length_cons]at this
    omega
   refine⟨_,rfl,hjn,T++[u],T++u::R',by simp,by rw[List.length_append,a2];rfl,c1.cert,fun v hg=>c4 v (a4 v hg),c1.last hall,c2,c3.1,fun w hw hq ho=>?_⟩
   refine LI.congr (c3.2 w hw hq ho) fun y hy _=>?_
   unfold dn
   rw[List.mem_append,List.mem_singleton]
   constructor
   · rintro(h | ⟨h,_⟩)
     · exact .inl h
     · exact .inr h
   · rintro(h | h)
     · exact .inl h
     · exact .inr ⟨h,hall w hw (h ▸ hy)⟩) (2 ^ 64) 0 (marksL goal goal.length,goal,List.replicate n 0) (by omega) ⟨[],marksL goal goal.length,rfl,rfl,hc0,fun v hg=>(hgm v).2 hg,ht0,⟨hG,fun v v0 v1=>by
     dsimp only
     rw[In_get (B:=goal) v0 (by omega)]
     congr 1
     exact decide_eq_decide.2 (hgm v).symm⟩,⟨by simp,fun w hw hq ho=> .inr ⟨by
     have:=InI_rng hB hw
     dsimp only
     rw[idx_int this.1,List.getElem?_replicate,if_pos (by omega)],fun y _ _ h=>by simp at h⟩⟩⟩ (by omega)
 match o,w2 with
 | .inr s,⟨Q,k1,k2,k3,k4⟩=>
  rw[w1,Option.bind_some,aft_inr]
  refine⟨_,rfl,k4.1,?_⟩
  have ha:=k1.attr (pri:=priL x.game.Prio) (fun v _ hg=>k2 v hg) k3
  have e:(fun v=>v∈Q)=In s.2.1:=by
   funext v
   apply propext
   constructor
   · intro hv
     obtain⟨v0,v1⟩:=InI_rng hB (k1.mem v hv)
     unfold In;rw[k4.2 v v0 v1];simp[hv]
   · intro hv
     have hr:=idx_rng hv
     unfold In at hv
     rw[k4.2 v hr.1 (by omega)]at hv
     simpa using hv
  rw[← e];exact ha
end
end Go.Proofs.YtmiilifclnanlaaGreat
set_option linter.unusedVariables false
set_option linter.unusedSimpArgs false
namespace Go.Proofs.YtmiilifclnanlaaGreat.Par
open Classical
variable {G:Gm}{X Y:Int→Prop}{p:Bool}{S S' A A2 W W2 D:Int→Prop}
theorem IsAttr.congrS (h:IsAttr G X p S A) (e:∀v,X v→(S v↔S' v)):IsAttr G X p S' A:=by
 obtain⟨r,hr⟩:=h.rank
 refine⟨h.sub,fun v hx hs=>h.base v hx ((e v hx).2 hs),⟨r,fun v hv=>?_⟩,h.mine,h.yours⟩
 rcases hr v hv with k | k
 · exact .inl ((e v (h.sub v hv)).1 k)
 · exact .inr k
structure Red (G:Gm) (X Y:Int→Prop) (p:Bool):Prop where
 sub:∀v,Y v→X v
 mine:∀D,Dom G Y p D→Dom G X p D
 yours:∀D,Dom G Y (!p) D→Dom G X (!p) (fun v=>Mn X Y v∨D v)
theorem Red.refl:Red G X X p:=⟨fun _ h=>h,fun _ h=>h,fun D h=>h.congr fun v=>⟨.inr,fun h=>h.resolve_left fun h=>h.2 h.1⟩⟩
theorem Red.step (h:Red G X Y p) (hA:IsAttr G Y p S A) (hW:Sol G (Mn Y A) p W) (h2:IsAttr G Y (!p) (Mn (Mn Y A) W) A2):Red G X (Mn Y A2) p:=by
 have hL:Dom G Y (!p) (Mn (Mn Y A) W):=Dom.lift hA hW.yours
 refine⟨fun v hv=>h.sub v hv.1,fun D hD=>h.mine D ?_,fun D hD=>(h.yours _ (Dom.grow hL h2 hD)).congr fun v=>?_⟩
 · have:=Dom.lift (p:= !p) (D:=D) h2 (by rwa [Bool.not_not])
   rwa [Bool.not_not]at this
 · constructor
   · rintro(⟨k1,k2⟩ | k | k)
     · exact .inl ⟨k1,fun k=>k2 k.1⟩
     · exact .inl ⟨h.sub v (h2.sub v k),fun k'=>k'.2 k⟩
     · exact .inr k
   · rintro(⟨k1,k2⟩ | k)
     · by_cases hy:Y v
       · by_cases ha:A2 v
         · exact .inr (.inl ha)
         · exact absurd ⟨hy,ha⟩ k2
       · exact .inl ⟨k1,hy⟩
     · exact .inr (.inr k)
theorem Red.sol (h:Red G X Y p) (hY:Sol G Y p W):Sol G X p W:=⟨fun v hv=>h.sub v (hY.sub v hv),h.mine W hY.mine,(h.yours _ hY.yours).congr fun v=>by
 constructor
 · rintro(⟨k1,k2⟩ | k)
   · exact⟨k1,fun k=>k2 (hY.sub v k)⟩
   · exact⟨h.sub v k.1,k.2⟩
 · rintro⟨k1,k2⟩
   by_cases hy:Y v
   · exact .inr ⟨hy,k2⟩
   · exact .inl ⟨k1,hy⟩⟩
theorem Sol.all (h:Dom G Y p Y):Sol G Y p Y:=⟨fun _ h=>h,h,Dom.empty.congr fun v=>⟨fun h=>h.elim,fun h=>h.2 h.1⟩⟩
theorem Sol.none (h:∀v,¬X v):Sol G X p W→∀v,¬W v:=fun hs v hv=>h v (hs.sub v hv)
theorem Sol.void (h:∀v,¬X v):Sol G X p X:=Sol.all (Dom.empty.congr fun v=>⟨fun h=>h.elim,fun hx=>h v hx⟩)
theorem Sol.top {d:Int}(hN:NoDead G X) (hd:∀v,X v→G.pri v≤d) (hp:oddP d=p) (hA:IsAttr G X p (fun v=>G.pri v=d) A) (hW:Sol G (Mn X A) p W) (hE:∀v,Mn X A v→W v):Sol G X p X:=
 Sol.all (Dom.top hN hd hp hA (hW.mine.congr fun v=>⟨hW.sub v,hE v⟩))
theorem Sol.asP {q:Bool}(h:Sol G X q W) (p:Bool):Sol G X p (fun v=>X v∧(W v↔p=q)):=by
 by_cases e:p=q
 · subst e
   exact h.congr fun v=>⟨fun hv=>⟨h.sub v hv,⟨fun _=>rfl,fun _=>hv⟩⟩,fun hv=>hv.2.2 rfl⟩
 · have:p= !q:=by revert e;cases p <;> cases q <;> simp
   subst this
   exact h.flip.congr fun v=>⟨fun hv=>⟨hv.1,⟨fun hw=>absurd hw hv.2,fun e'=>absurd e' e⟩⟩,fun hv=>⟨hv.1,fun hw=>e (hv.2.1 hw)⟩⟩
end Go.Proofs.YtmiilifclnanlaaGreat.Par
set_option linter.unusedVariables false
set_option linter.unusedSimpArgs false
namespace Go.Proofs.YtmiilifclnanlaaGreat
open Go Go.Wk Go.Proofs
theorem priL_get {P:List Int}{v:Int}(h0:0≤v) (h1:v<P.length):idx P v=some (priL P v):=by
 obtain⟨q,hq⟩:=idx_some (xs:=P) h0 h1
 unfold priL;rw[hq];rfl
def PriOk (P:List Int):Prop:=∀v q,idx P v=some q→0≤q∧q≤40
theorem tmod_who {d:Int}(h:0≤d):Int.tmod d 2=b2i (Par.oddP d):=by
 rw[Int.tmod_eq_emod_of_nonneg h]
 unfold Par.oddP b2i
 by_cases e:d % 2=1
 · simp[e]
 · simp[e];omega
theorem b2i_beq0 (p:Bool):(b2i p==0)= !p:=by cases p <;> rfl
theorem b2i_beq1 (p:Bool):(b2i p==1)=p:=by cases p <;> rfl
theorem b2i_beq (p q:Bool):(b2i p==b2i q)=(p==q):=by cases p <;> cases q <;> rfl
theorem b2i_other (p:Bool):IntKind.i64.wrap (1-b2i p)=b2i (!p):=by cases p <;> decide
theorem l7Less_eq {A B:List Bool}{n:Nat}(hA:A.length=n) (hB:B.length=n) (hn:n≤256):∃R,s_l7Less A B=some R∧R.length=n∧∀v,In R v↔In A v∧¬In B v:=by
 unfold s_l7Less
 rw[hA,mkS_nat (by omega) rfl,Option.bind_some]
 obtain⟨R,h1,h2,h3⟩:=fillB (f:=s_l7Less_b0 A B) (fun v=>In A v∧¬In B v) n (s0:=List.replicate n false) (by simp) (fun j s hj hs=>by
  unfold s_l7Less_b0
  rw[In_get (B:=A) (by omega) (by omega),Option.bind_some,In_get (B:=B) (by omega) (by omega),Option.bind_some,andE,Option.bind_some]
  congr 1
  funext _
  congr 2
  rw[Bool.eq_iff_iff];simp) (fun v hv=>In_of hA hv.1)
 rw[h1,Option.bind_some,aft_inr]
 exact⟨R,rfl,h2,h3⟩
section
variable {x:l7Game}{n:Nat}(wf:WfS x n) (hp:PriOk x.prio)
include wf hp
theorem s_top {B:List Bool}(hB:B.length=n):∃d:Int,s_l7Top x B=some d∧d≤40∧(∀v,In B v→priL x.prio v≤d)∧((d= -1∧∀v,¬In B v)∨(0≤d∧∃v,In B v∧priL x.prio v=d)):=by
 have hlp:=wf.lp
 obtain⟨s,h1,h2,h3,h4⟩:=cnt_inv (f:=s_l7Top_b0 x B) (fun j (s:Int)=>s≤40∧(∀v,v<(j:Int)→In B v→priL x.prio v≤s)∧((s= -1∧∀v,v<(j:Int)→¬In B v)∨(0≤s∧∃v,In B v∧priL x.prio v=s))) B.length (s:=(-1:Int)) ⟨by omega,fun v hv hi=>by
  have:=In_of hB hi;omega,.inl ⟨rfl,fun v hv hi=>by have:=In_of hB hi;omega⟩⟩ (fun j s hj ⟨q1,q2,q3⟩=>by
  rw[hB]at hj
  unfold s_l7Top_b0
  have hq:=priL_get (P:=x.prio) (v:=(j:Int)) (by omega) (by omega)
  obtain⟨d0,d1⟩:=hp _ _ hq
  rw[In_get (B:=B) (by omega) (by omega),Option.bind_some,hq]
  by_cases hi:In B (j:Int)
  · simp only[hi,decide_true,cond_true,Option.bind_some]
    unfold s_l1Max
    by_cases hlt:priL x.prio (j:Int)<s
    · simp only[hlt,decide_true,cond_true,Option.bind_some]
      refine⟨_,rfl,q1,fun v hv hi'=>?_,?_⟩
      · by_cases e:v=(j:Int)
        · subst e;omega
        · exact q2 v (by omega) hi'
      · rcases q3 with ⟨e,_⟩ | h
        · omega
        · exact .inr h
    · simp only[hlt,decide_false,cond_false,Option.bind_some]
      refine⟨_,rfl,d1,fun v hv hi'=>?_,.inr ⟨d0,(j:Int),hi,rfl⟩⟩
      by_cases e:v=(j:Int)
      · subst e;omega
      · have:=q2 v (by omega) hi';omega
  · simp only[hi,decide_false,cond_false,Option.bind_some]
    refine⟨_,rfl,q1,fun v hv hi'=>?_,?_⟩
    · by_cases e:v=(j:Int)
      · subst e;exact absurd hi' hi
      · exact q2 v (by omega) hi'
    · rcases q3 with ⟨e,h⟩ | h
      · refine .inl ⟨e,fun v hv hi'=>?_⟩
        by_cases e:v=(j:Int)
        · subst e;exact hi hi'
        · exact h v (by omega) hi'
      · exact .inr h)
 unfold s_l7Top
 rw[h1,Option.bind_some,aft_inr]
 refine⟨s,rfl,h2,fun v hv=>h3 v (by have:=In_of hB hv;omega) hv,?_⟩
 rcases h4 with ⟨e,h⟩ | h
 · exact .inl ⟨e,fun v hv=>h v (by have:=In_of hB hv;omega) hv⟩
 · exact .inr h
omit wf hp in
theorem s_lost {rest low:List Bool}{d:Int}{p:Bool}(hd:Int.tmod d 2=b2i p) (hr:rest.length=n) (hl:low.length=n):∃L b,cntM (s_l7Win_b2 d rest low) n 0 (false,List.replicate n false)=some (.inr (b,L))∧L.length=n∧(∀v,In L v↔In rest v∧(In low v↔p=true))∧(b=true↔∃v,In L v):=by
 let val:Nat→Bool:=fun j=>decide (In rest (j:Int)∧(In low (j:Int)↔p=true))
 obtain⟨s,h1,h2,h3,h4⟩:=cnt_inv (f:=s_l7Win_b2 d rest low) (fun j (s:Bool×List Bool)=>s.2.length=n∧(∀i:Nat,i<j→idx s.2 (i:Int)=some (val i))∧(s.1=true↔∃i:Nat,i<j∧val i=true)) n (s:=(false,List.replicate n false)) ⟨by simp,fun i hi=>absurd hi (Nat.not_lt_zero i),by simp⟩ (fun j s hj ⟨q1,q2,q3⟩=>by
  obtain⟨b,L⟩:=s
  dsimp only at q1 q2 q3
  obtain⟨old,ho⟩:=idx_some (xs:=L) (i:=(j:Int)) (by omega) (by omega)
  obtain⟨L',hs,hl'⟩:=setI_some (xs:=L) (i:=(j:Int)) (val j) (by omega) (by omega)
  have hv:(decide (In rest (j:Int))&&(decide (In low (j:Int)) != !p))=val j:=by
   show _=decide (In rest (j:Int)∧(In low (j:Int)↔p=true))
   rw[Bool.eq_iff_iff]
   cases p <;> simp
  have hnew:idx L' (j:Int)=some (val j):=by rw[idx_setI hs,if_pos rfl]
  unfold s_l7Win_b2
  dsimp only
  rw[In_get (B:=rest) (by omega) (by omega),Option.bind_some,In_get (B:=low) (by omega) (by omega),Option.bind_some,andE,Option.bind_some,hd,b2i_beq0,hv,ho,Option.bind_some,hs,Option.bind_some,hnew,Option.bind_some,orE,Option.bind_some]
  refine⟨_,rfl,by dsimp only;omega,fun i hi=>?_,?_⟩
  · dsimp only
    rw[idx_setI hs]
    by_cases e:(i:Int)=(j:Int)
    · have:i=j:=by omega
      subst this
      rw[if_pos rfl]
    · rw[if_neg e];exact q2 i (by omega)
  · dsimp only
    rw[Bool.or_eq_true,q3]
    constructor
    · rintro(⟨i,hi,h⟩ | h)
      · exact⟨i,by omega,h⟩
      · exact⟨j,by omega,h⟩
    · rintro⟨i,hi,h⟩
      by_cases e:i=j
      · subst e;exact .inr h
      · exact .inl ⟨i,by omega,h⟩)
 obtain⟨b,L⟩:=s
 dsimp only at h2 h3 h4
 have hIn:∀v,In L v↔In rest v∧(In low v↔p=true):=fun v=>by
  constructor
  · intro h
    obtain⟨v0,v1⟩:=idx_rng h
    obtain⟨j,hj⟩:=ex_nat v0
    subst hj
    have:=h3 j (by omega)
    unfold In at h
    rw[h]at this
    exact of_decide_eq_true (Option.some.inj this).symm
  · intro h
    obtain⟨v0,v1⟩:=In_of hr h.1
    obtain⟨j,hj⟩:=ex_nat v0
    subst hj
    unfold In
    rw[h3 j (by omega)]
    congr 1
    exact decide_eq_true h
 refine⟨L,b,h1,h2,hIn,?_⟩
 rw[h4]
 constructor
 · rintro⟨i,hi,h⟩
   exact⟨(i:Int),(hIn _).2 (of_decide_eq_true h)⟩
 · rintro⟨v,hv⟩
   obtain⟨v0,v1⟩:=In_of h2 hv
   obtain⟨j,hj⟩:=ex_nat v0
   subst hj
   exact⟨j,by omega,decide_eq_true ((hIn _).1 hv)⟩
theorem s_win:∀(k:Nat) (B:List Bool) (f:Nat),B.length=n→Par.NoDead (gS x) (In B)→cnt B≤k→k<f→∃R,s_l7Win f x B=some R∧R.length=n∧Par.Sol (gS x) (In B) false (In R):=by
 have hn:=wf.n256
 intro k
 induction k with
 | zero=>
  intro B f hB hN hk hf
  obtain⟨f,rfl⟩:∃g,f=g+1:=⟨f-1,by omega⟩
  show ∃R,s_l7Win_s (s_l7Win f) x B=some R∧_
  unfold s_l7Win_s
  obtain⟨d,t1,t2,t3,t4⟩:=s_top wf hp hB
  have hno:=cnt_zero (B:=B) (by omega)
  rcases t4 with ⟨e,_⟩ | ⟨_,v,hv,_⟩
  · subst e
    rw[t1,Option.bind_some,hB,mkS_nat (by omega) rfl,Option.bind_some]
    refine⟨_,rfl,by simp,(Par.Sol.void hno).congr fun v=>⟨fun h=>absurd h (hno v),fun h=>?_⟩⟩
    have hr:=idx_rng h
    unfold In at h
    rw[idx_int hr.1,List.getElem?_replicate]at h
    split at h <;> simp at h
  · exact absurd hv (hno v)
 | succ k ih=>
  intro B f hB hN hk hf
  obtain⟨f,rfl⟩:∃g,f=g+1:=⟨f-1,by omega⟩
  show ∃R,s_l7Win_s (s_l7Win f) x B=some R∧_
  unfold s_l7Win_s
  obtain⟨d,t1,t2,t3,t4⟩:=s_top wf hp hB
  rcases t4 with ⟨e,hno⟩ | ⟨hd0,w,hw,hwd⟩
  · subst e
    rw[t1,Option.bind_some,hB,mkS_nat (by omega) rfl,Option.bind_some]
    refine⟨_,rfl,by simp,(Par.Sol.void hno).congr fun v=>⟨fun h=>absurd h (hno v),fun h=>?_⟩⟩
    have hr:=idx_rng h
    unfold In at h
    rw[idx_int hr.1,List.getElem?_replicate]at h
    split at h <;> simp at h
  · have hneg:decide (d<0)=false:=by simp;omega
    have hwho:=tmod_who hd0
    generalize hpe:Par.oddP d=p at hwho
    rw[t1,Option.bind_some,hB,mkS_nat (by omega) rfl,Option.bind_some]
    simp only[hneg,cond_false,Option.bind_some]
    obtain⟨goal,g1,g2,g3⟩:=fillB (f:=s_l7Win_b0 x B d) (fun v=>In B v∧priL x.prio v=d) n (s0:=List.replicate n false) (by simp) (fun j s hj hs=>by
     unfold s_l7Win_b0
     rw[In_get (B:=B) (by omega) (by omega),Option.bind_some,priL_get (P:=x.prio) (by omega) (by rw[wf.lp];omega),Option.bind_some,andE,Option.bind_some]
     congr 1
     funext _
     congr 2
     rw[Bool.eq_iff_iff];simp) (fun v hv=>In_of hB hv.1)
    rw[g1,Option.bind_some,aft_inr,hwho]
    obtain⟨A,a1,a2,a3⟩:=s_attr wf hB g2 p hN
    have hA:Par.IsAttr (gS x) (In B) p (fun v=>(gS x).pri v=d) (In A):=a3.congrS fun v hv=>by rw[g3];exact⟨fun h=>h.2,fun h=>⟨hv,h⟩⟩
    obtain⟨rest,r1,r2,r3⟩:=l7Less_eq hB a2 hn
    have hX1:∀v,Par.Mn (In B) (In A) v↔In rest v:=fun v=>(r3 v).symm
    have e1:Par.Mn (In B) (In A)=In rest:=funext fun v=>propext (hX1 v)
    have hN1:Par.NoDead (gS x) (In rest):=e1 ▸ hN.less hA
    have hc1:cnt rest<cnt B:=cnt_lt (fun v hv=>((r3 v).1 hv).1) hw fun h=>((r3 w).1 h).2 (a3.base w hw ((g3 w).2 ⟨hw,hwd⟩))
    obtain⟨low,l1,l2,l3⟩:=ih rest f r2 hN1 (by omega) (by omega)
    obtain⟨L,b,m1,m2,m3,m4⟩:=s_lost hwho r2 l2
    simp only[a1,Option.bind_some,r1,l1,m1,aft_inr]
    have hW:=l3.asP p
    have hLe:∀v,In L v↔Par.Mn (In rest) (fun v=>In rest v∧(In low v↔p=false)) v:=fun v=>by
     rw[m3]
     unfold Par.Mn
     by_cases h1:In rest v <;> by_cases h2:In low v <;> cases p <;> simp[h1,h2]
    have eL:Par.Mn (In rest) (fun v=>In rest v∧(In low v↔p=false))=In L:=funext fun v=>propext (hLe v).symm
    cases hb:b with
    | false=>
     simp only[Bool.not_false,cond_true]
     have hno:∀v,¬In L v:=fun v hv=>by
      have:=m4.2 ⟨v,hv⟩
      rw[hb]at this;cases this
     obtain⟨R,o1,o2,o3⟩:=fillB (f:=s_l7Win_b4 B d) (fun v=>In B v∧p=false) n (s0:=List.replicate n false) (by simp) (fun j s hj hs=>by
      unfold s_l7Win_b4
      rw[In_get (B:=B) (by omega) (by omega),Option.bind_some,andE,Option.bind_some,hwho,b2i_beq0]
      congr 1
      funext _
      congr 2
      rw[Bool.eq_iff_iff];simp) (fun v hv=>In_of hB hv.1)
     rw[o1,Option.bind_some,aft_inr]
     refine⟨R,rfl,o2,?_⟩
     have hS:Par.Sol (gS x) (In B) p (In B):=Par.Sol.top hN t3 hpe hA (e1.symm ▸ hW) fun v hv=>by
      have hv:=(hX1 v).1 hv
      apply Classical.byContradiction
      intro hc
      exact hno v ((hLe v).2 ⟨hv,fun h=>hc ⟨(hX1 v).2 hv,h.2⟩⟩)
     refine(hS.asP false).congr fun v=>?_
     rw[o3]
     constructor
     · rintro⟨k1,k2⟩;exact⟨k1,(k2.1 k1).symm⟩
     · rintro⟨k1,k2⟩;exact⟨k1,fun _=>k2.symm,fun _=>k1⟩
    | true=>
     simp only[Bool.not_true,cond_false]
     obtain⟨w2,hw2⟩:=m4.1 hb
     obtain⟨A2,b1,b2,b3⟩:=s_attr wf hB m2 (!p) hN
     obtain⟨rest2,c1,c2,c3⟩:=l7Less_eq hB b2 hn
     have e2:Par.Mn (In B) (In A2)=In rest2:=funext fun v=>propext (c3 v).symm
     have hN2:Par.NoDead (gS x) (In rest2):=e2 ▸ hN.less b3
     have hw2B:In B w2:=((r3 w2).1 ((m3 w2).1 hw2).1).1
     have hc2:cnt rest2<cnt B:=cnt_lt (fun v hv=>((c3 v).1 hv).1) hw2B fun h=>((c3 w2).1 h).2 (b3.base w2 hw2B hw2)
     obtain⟨again,d1,d2,d3⟩:=ih rest2 f c2 hN2 (by omega) (by omega)
     rw[b2i_other]
     simp only[b1,Option.bind_some,c1,d1]
     obtain⟨R,o1,o2,o3⟩:=fillB (f:=s_l7Win_b6 d A2 again) (fun v=>In again v∨(In A2 v∧p=true)) n (s0:=List.replicate n false) (by simp) (fun j s hj hs=>by
      unfold s_l7Win_b6
      rw[In_get (B:=again) (by omega) (by omega),Option.bind_some,In_get (B:=A2) (by omega) (by omega),Option.bind_some,andE,Option.bind_some,orE,Option.bind_some,hwho,b2i_beq1]
      congr 1
      funext _
      congr 2
      rw[Bool.eq_iff_iff];simp) (fun v hv=>by
       rcases hv with h | h
       · exact In_of d2 h
       · exact In_of b2 h.1)
     rw[o1,Option.bind_some,aft_inr]
     refine⟨R,rfl,o2,?_⟩
     have hRed:Par.Red (gS x) (In B) (Par.Mn (In B) (In A2)) p:=Par.Red.refl.step hA (e1.symm ▸ hW) (by rw[e1,eL];exact b3)
     have hS:=hRed.sol (e2.symm ▸ d3.asP p)
     refine(hS.asP false).congr fun v=>?_
     rw[o3]
     have k1:In again v→In rest2 v:=d3.sub v
     have k2:In A2 v→In B v:=b3.sub v
     have k3:=c3 v
     by_cases h1:In B v <;> by_cases h2:In A2 v <;> by_cases h3:In again v <;> cases hpp:p <;> simp[h1,h2]at k1 k2 k3 <;> simp[h1,h2,h3,k3] <;> simp_all
end
end Go.Proofs.YtmiilifclnanlaaGreat
set_option linter.unusedVariables false
set_option linter.unusedSimpArgs false
namespace Go.Proofs.YtmiilifclnanlaaGreat
open Go Go.Wk Go.Proofs
theorem hasTrue_eq {B:List Bool}:∃b,slices_Contains_bool_bool B true=some b∧(b=true↔∃v,In B v):=by
 unfold slices_Contains_bool_bool slices_Index_bool_bool
 obtain⟨o,h1,h2⟩:=cnt_out0 (f:=slices_Index_bool_bool_b0 B true) (fun j (_:Unit)=>∀v,v<(j:Int)→¬In B v) (fun r=>0≤r∧∃v,In B v) (fun _=>False) B.length (s:=()) (fun v hv hi=>by have:=idx_rng hi;omega) (fun j s hj hi=>by
  unfold slices_Index_bool_bool_b0
  rw[In_get (B:=B) (by omega) (by omega),Option.bind_some]
  by_cases h:In B (j:Int)
  · simp only[h,decide_true,BEq.rfl,cond_true]
    exact⟨_,rfl,by omega,_,h⟩
  · have:(true==decide (In B (j:Int)))=false:=by simp[h]
    simp only[this,cond_false]
    refine⟨_,rfl,fun v hv hi'=>?_⟩
    by_cases e:v=(j:Int)
    · subst e;exact h hi'
    · exact hi v (by omega) hi')
 match o,h2 with
 | .inl r,⟨h0,hv⟩=>
  rw[h1,Option.bind_some]
  exact⟨_,rfl,fun _=>hv,fun _=>decide_eq_true h0⟩
 | .inr _,h2=>
  have h2:=h2.resolve_right id
  rw[h1,Option.bind_some,aft_inr]
  refine⟨_,rfl,fun h=>absurd h (by decide),fun⟨v,hv⟩=>absurd hv (h2 v (by have:=idx_rng hv;omega))⟩
section
variable {x:solver}{n:Nat}(wf:WfI x n) (hp:PriOk x.game.Prio)
include wf hp
theorem i_top {B:List Bool}(hB:B.length=n){w:Int}(hw:In B w):∃d:Int,i_topIn x.game (marksL B B.length)=some d∧0≤d∧(∀v,In B v→priL x.game.Prio v≤d)∧∃v,In B v∧priL x.game.Prio v=d:=by
 have hlp:=wf.lp
 obtain⟨s,h1,h2,h3⟩:=cnt_inv (f:=i_topIn_b0 x.game (marksL B B.length)) (fun j (s:Int)=>(∀v∈(marksL B B.length).take j,priL x.game.Prio v≤s)∧((s= -1∧j=0)∨(0≤s∧∃v,In B v∧priL x.game.Prio v=s))) (marksL B B.length).length (s:=(-1:Int)) ⟨fun v hv=>by simp at hv,.inl ⟨rfl,rfl⟩⟩ (fun j s hj ⟨q2,q3⟩=>by
  have hu:(marksL B B.length)[j]? =some (marksL B B.length)[j]:=List.getElem?_eq_getElem hj
  generalize(marksL B B.length)[j]=u at hu
  have hi:=mem_marksL.1 (List.mem_of_getElem? hu)
  obtain⟨u0,u1⟩:=In_of hB hi
  have hq:=priL_get (P:=x.game.Prio) (v:=u) (by omega) (by omega)
  obtain⟨d0,d1⟩:=hp _ _ hq
  unfold i_topIn_b0
  rw[idx_nat,hu,Option.bind_some,hq,Option.bind_some,take_one hu]
  refine⟨_,rfl,fun v hv=>?_,.inr ?_⟩
  · rcases List.mem_append.1 hv with hv | hv
    · have:=q2 v hv
      split <;> omega
    · rw[List.mem_singleton]at hv
      subst hv
      split <;> omega
  · by_cases hlt:s<priL x.game.Prio u
    · rw[if_pos hlt];exact⟨d0,u,hi,rfl⟩
    · rw[if_neg hlt]
      rcases q3 with ⟨e,_⟩ | h
      · omega
      · exact h)
 unfold i_topIn
 rw[h1,Option.bind_some,aft_inr]
 rw[List.take_length]at h2
 have hm:=mem_marksL.2 hw
 rcases h3 with ⟨_,e⟩ | ⟨h0,h4⟩
 · rw[List.length_eq_zero_iff]at e
   rw[e]at hm
   cases hm
 · exact⟨s,rfl,h0,fun v hv=>h2 v (mem_marksL.2 hv),h4⟩
theorem i_won:∀(k:Nat) (B:List Bool) (f:Nat),B.length=n→Par.NoDead (gI x.game) (In B)→cnt B≤k→k<f→∃R q,i_solver_won f x B=some (R,b2i q)∧R.length=n∧Par.Sol (gI x.game) (In B) q (In R):=by
 have hn:=wf.n256
 intro k
 induction k with
 | zero=>
  intro B f hB hN hk hf
  obtain⟨f,rfl⟩:∃g,f=g+1:=⟨f-1,by omega⟩
  show ∃R q,i_solver_won_s (i_solver_won f) x B=some (R,b2i q)∧_
  unfold i_solver_won_s
  have h0:cnt B=0:=by omega
  have hno:=cnt_zero h0
  rw[listI_eq (by omega),Option.bind_some]
  have e:((marksL B B.length).length:Int)=0:=by
   unfold cnt at h0;omega
  rw[e]
  exact⟨B,false,rfl,hB,Par.Sol.void hno⟩
 | succ k ih=>
  intro B f hB hN hk hf
  obtain⟨f,rfl⟩:∃g,f=g+1:=⟨f-1,by omega⟩
  show ∃R q,i_solver_won_s (i_solver_won f) x B=some (R,b2i q)∧_
  unfold i_solver_won_s
  by_cases h0:cnt B=0
  · have hno:=cnt_zero h0
    rw[listI_eq (by omega),Option.bind_some]
    have e:((marksL B B.length).length:Int)=0:=by
     unfold cnt at h0;omega
    rw[e]
    exact⟨B,false,rfl,hB,Par.Sol.void hno⟩
  · have hw:∃w,In B w:=by
     apply Classical.byContradiction
     intro hc
     apply h0
     unfold cnt
     rw[List.length_eq_zero_iff]
     cases hm:marksL B B.length with
     | nil=>rfl
     | cons v vs=>exact absurd ⟨v,mem_marksL.1 (by rw[hm];exact List.mem_cons_self ..)⟩ hc
    obtain⟨w,hw⟩:=hw
    obtain⟨d,t1,hd0,t3,wt,hwt,hwd⟩:=i_top wf hp hB hw
    have hne:((((marksL B B.length).length:Int))==0)=false:=by
     unfold cnt at h0
     have:((marksL B B.length).length:Int)≠0:=by omega
     simpa using this
    have hwho:=tmod_who hd0
    generalize hpe:Par.oddP d=p at hwho
    rw[listI_eq (by omega),Option.bind_some,hne,cond_false,t1,Option.bind_some,appL (by rw[List.length_nil];omega) rfl,Option.bind_some,List.nil_append]
    obtain⟨o,w1,w2⟩:=while_out (f:=i_solver_won_b0 (i_solver_won f) x B d) (fun j (now:List Bool)=>now.length=n∧Par.Red (gI x.game) (In B) (In now) p∧Par.NoDead (gI x.game) (In now)∧(cnt now<cnt B∨∀v,In B v→In now v)∧cnt now+j≤cnt B)
     (fun r=>∃R,r=(R,b2i p)∧R.length=n∧Par.Sol (gI x.game) (In B) p (In R)) (fun _=>False) (cnt B) (fun j now ⟨q1,q2,q3,q4,q5⟩=>by
     unfold i_solver_won_b0
     rw[hB,mkS_nat (by omega) rfl,Option.bind_some]
     obtain⟨goal,g1,g2,g3⟩:=fillB (f:=i_solver_won_b2 x d now) (fun v=>In now v∧priL x.game.Prio v=d) n (s0:=List.replicate n false) (by simp) (fun j s hj hs=>by
      unfold i_solver_won_b2
      rw[In_get (B:=now) (by omega) (by omega),Option.bind_some,priL_get (P:=x.game.Prio) (by omega) (by rw[wf.lp];omega),Option.bind_some,andE,Option.bind_some]
      congr 1
      funext _
      congr 2
      rw[Bool.eq_iff_iff];simp) (fun v hv=>In_of q1 hv.1)
     rw[List.length_replicate,g1,Option.bind_some,aft_inr,hwho]
     obtain⟨A,a1,a2,a3⟩:=i_attr wf q1 g2 p q3 fun v hv=>((g3 v).1 hv).1
     have hA:Par.IsAttr (gI x.game) (In now) p (fun v=>(gI x.game).pri v=d) (In A):=a3.congrS fun v hv=>by rw[g3];exact⟨fun h=>h.2,fun h=>⟨hv,h⟩⟩
     obtain⟨rest,r1,r2,r3⟩:=without_eq q1 a2 hn
     have hX1:∀v,Par.Mn (In now) (In A) v↔In rest v:=fun v=>(r3 v).symm
     have e1:Par.Mn (In now) (In A)=In rest:=funext fun v=>propext (hX1 v)
     have hN1:Par.NoDead (gI x.game) (In rest):=e1 ▸ q3.less hA
     have hcn:cnt rest≤cnt now:=cnt_sub fun v hv=>((r3 v).1 hv).1
     have hc1:cnt rest<cnt B:=by
      rcases q4 with h | h
      · omega
      · have hwn:=h wt hwt
        have:=cnt_lt (fun v hv=>((r3 v).1 hv).1) hwn fun h=>((r3 wt).1 h).2 (a3.base wt hwn ((g3 wt).2 ⟨hwn,hwd⟩))
        omega
     obtain⟨W,q,l1,l2,l3⟩:=ih rest f r2 hN1 (by omega) (by omega)
     simp only[a1,Option.bind_some,r1,l1,b2i_beq]
     have hW:=l3.asP p
     -- what is lost
     have hlost:∃L,(bif q==p then Option.bind (i_without rest W) fun x80=>some (x80:List Bool) else some W)=some L∧L.length=n∧∀v,In L v↔Par.Mn (In rest) (fun v=>In rest v∧(In W v↔p=q)) v:=by
      by_cases e:q=p
      · subst e
        obtain⟨L,m1,m2,m3⟩:=without_eq r2 l2 hn
        refine⟨L,by rw[m1,show(q==q)=true from by simp];rfl,m2,fun v=>?_⟩
        rw[m3]
        unfold Par.Mn
        by_cases h1:In rest v <;> by_cases h2:In W v <;> simp[h1,h2]
      · have hb:(q==p)=false:=by simpa using e
        refine⟨W,by rw[hb];rfl,l2,fun v=>?_⟩
        have:=l3.sub v
        unfold Par.Mn
        have e':¬p=q:=fun h=>e h.symm
        by_cases h1:In rest v <;> by_cases h2:In W v <;> simp[h1,h2,e']at this ⊢
     obtain⟨L,m1,m2,m3⟩:=hlost
     have eL:Par.Mn (In rest) (fun v=>In rest v∧(In W v↔p=q))=In L:=funext fun v=>propext (m3 v).symm
     obtain⟨b,c1,c2⟩:=hasTrue_eq (B:=L)
     simp only[m1,Option.bind_some,c1]
     cases hb:b with
     | false=>
      simp only[Bool.not_false,cond_true]
      have hno:∀v,¬In L v:=fun v hv=>by
       have:=c2.2 ⟨v,hv⟩
       rw[hb]at this;cases this
      refine⟨_,rfl,now,rfl,q1,q2.sol (Par.Sol.top q3 (fun v hv=>t3 v (q2.sub v hv)) hpe hA (e1.symm ▸ hW) fun v hv=>?_)⟩
      have hv':=(hX1 v).1 hv
      apply Classical.byContradiction
      intro hc
      exact hno v ((m3 v).2 ⟨hv',fun h=>hc ⟨hv,h.2⟩⟩)
     | true=>
      simp only[Bool.not_true,cond_false]
      obtain⟨w2,hw2⟩:=c2.1 hb
      have hLn:∀v,In L v→In now v:=fun v hv=>((r3 v).1 ((m3 v).1 hv).1).1
      obtain⟨A2,b1,b2,b3⟩:=i_attr wf q1 m2 (!p) q3 hLn
      obtain⟨now2,n1,n2,n3⟩:=without_eq q1 b2 hn
      have e2:Par.Mn (In now) (In A2)=In now2:=funext fun v=>propext (n3 v).symm
      have hN2:Par.NoDead (gI x.game) (In now2):=e2 ▸ q3.less b3
      have hc2:cnt now2<cnt now:=cnt_lt (fun v hv=>((n3 v).1 hv).1) (hLn w2 hw2) fun h=>((n3 w2).1 h).2 (b3.base w2 (hLn w2 hw2) hw2)
      have hRed:Par.Red (gI x.game) (In B) (In now2) p:=by
       have:=q2.step hA (e1.symm ▸ hW) (by rw[e1,eL];exact b3)
       rwa [e2]at this
      obtain⟨b',c1',c2'⟩:=hasTrue_eq (B:=now2)
      rw[b2i_other]
      simp only[b1,Option.bind_some,n1,c1']
      cases hb':b' with
      | false=>
       simp only[Bool.not_false,cond_true]
       refine⟨_,rfl,now2,rfl,n2,hRed.sol (Par.Sol.void fun v hv=>?_)⟩
       have:=c2'.2 ⟨v,hv⟩
       rw[hb']at this;cases this
      | true=>
       simp only[Bool.not_true,cond_false]
       exact⟨_,rfl,by omega,n2,hRed,hN2,.inl (by omega),by omega⟩) (2 ^ 64) 0 B (by have:=cnt_le B;omega) ⟨hB,Par.Red.refl,hN,.inr fun _ h=>h,by omega⟩ (by omega)
    match o,w2 with
    | .inl r,⟨R,k1,k2,k3⟩=>
     subst k1
     rw[w1,Option.bind_some]
     exact⟨R,p,rfl,k2,k3⟩
end
end Go.Proofs.YtmiilifclnanlaaGreat
set_option linter.unusedVariables false
set_option linter.unusedSimpArgs false
namespace Go.Proofs.YtmiilifclnanlaaGreat
open Go Go.Wk Go.Proofs
def stepUp (n:Int) (xs:List Int) (i:Nat) (x:Int):Bool:=inR n x&&(!decide (0<i)||(match xs[i-1]? with | some y=>decide (y<x) | none=>false))
def setOk (n:Int) (xs:List Int):Bool:=xs.zipIdx.all (fun p=>stepUp n xs p.2 p.1)
theorem setOk_spec {n:Int}{xs:List Int}(h:setOk n xs=true):(∀(i:Nat) x,xs[i]? =some x→0≤x∧x<n)∧∀(i:Nat) x y,xs[i]? =some x→xs[i+1]? =some y→x<y:=by
 unfold setOk at h
 rw[List.all_eq_true]at h
 refine⟨fun i x hx=>?_,fun i x y hx hy=>?_⟩
 · have:=h (x,i) (List.mem_zipIdx_iff_getElem?.2 hx)
   unfold stepUp at this
   rw[Bool.and_eq_true]at this
   exact inR_iff.1 this.1
 · have:=h (y,i+1) (List.mem_zipIdx_iff_getElem?.2 hy)
   unfold stepUp at this
   simp only[Nat.add_sub_cancel,hx]at this
   have h2:=((Bool.and_eq_true _ _).mp this).2
   simp at h2
   exact h2
theorem setOk_ge {n:Int}{xs:List Int}(h:setOk n xs=true):∀(i:Nat) x,xs[i]? =some x→(i:Int)≤x
 | 0,x,hx=>by have:=((setOk_spec h).1 0 x hx).1;omega
 | i+1,x,hx=>by
  have hi:i<xs.length:=by have:=(List.getElem?_eq_some_iff.1 hx).1;omega
  have hy:xs[i]? =some xs[i]:=by simp[hi]
  have:=setOk_ge h i _ hy
  have:=(setOk_spec h).2 i _ _ hy hx
  omega
theorem setOk_len {n:Int}{xs:List Int}(h:setOk n xs=true) (h0:0≤n):(xs.length:Int)≤n:=by
 by_cases he:xs.length=0
 · omega
 · have hx:xs[xs.length-1]? =some (xs[xs.length-1]'(by omega)):=List.getElem?_eq_getElem (by omega)
   have:=setOk_ge h _ _ hx
   have:=((setOk_spec h).1 _ _ hx).2
   omega
theorem prev_get {xs:List Int}{i:Nat}(hi:i<xs.length) (h:0<i):∃y,idx xs (IntKind.i64.wrap ((i:Int)-1))=some y∧xs[i-1]? =some y∨1000000000≤i:=by
 by_cases hb:1000000000≤i
 · exact⟨0,.inr hb⟩
 · refine⟨xs[i-1]'(by omega),.inl ⟨?_,List.getElem?_eq_getElem (by omega)⟩⟩
   rw[wr' (by omega) (by omega),show((i:Int)-1)=((i-1:Nat):Int) from by omega,idx_nat]
   exact List.getElem?_eq_getElem (by omega)
theorem s_l1Rises_eq {xs:List Int}{n:Int}(h0:0≤n) (h1:n≤1000000000) (hl:xs.length≤1000000000):s_l1Rises xs n=some (setOk n xs):=by
 unfold s_l1Rises
 rw[cnt_allP (f:=s_l1Rises_b0 xs n) (r:=false) (stepUp n xs) (xs:=xs) rfl (fun i x hx=>by
  have hi:=(List.getElem?_eq_some_iff.1 hx).1
  unfold s_l1Rises_b0 stepUp
  rw[idx_nat,hx]
  simp only[Option.bind_some,wr' (z:=n-1) (by omega) (by omega),s_l1In_eq,inR_one]
  cases inR n x with
  | false=>rfl
  | true=>
   by_cases hi0:0<i
   · obtain⟨y,⟨e1,e2⟩ | e⟩:=prev_get hi hi0
     · have e3:decide (x≤y)= !decide (y<x):=by rw[← decide_not];exact decide_eq_decide.2 (by omega)
       simp only[e1,e2,show(0:Int)<(i:Int) from by omega,hi0,decide_true,Bool.not_true,cond_false,cond_true,Option.bind_some,e3,Bool.true_and,Bool.false_or]
       cases decide (y<x) <;> rfl
     · omega
   · have:¬(0:Int)<(i:Int):=by omega
     simp[hi0,this])]
 unfold setOk
 cases List.all xs.zipIdx (fun p=>stepUp n xs p.2 p.1) <;> rfl
theorem s_l1Set_eq {xs:List Int}{n:Int}(h0:0≤n) (h1:n≤1000000000) (hl:xs.length≤1000000000):s_l1Set xs n=some (setOk n xs):=by
 unfold s_l1Set
 rw[s_l1Rises_eq h0 h1 hl]
 by_cases h:(xs.length:Int)≤n
 · simp[h]
 · have:setOk n xs=false:=by
    cases hs:setOk n xs with
    | false=>rfl
    | true=>exact absurd (setOk_len hs h0) h
   simp[h,this]
theorem i_isSet_eq {xs:List Int}{n:Int}(hl:xs.length≤1000000000):i_isSet xs n=some (setOk n xs):=by
 unfold i_isSet
 rw[cnt_allP (f:=i_isSet_b0 xs n) (r:=false) (stepUp n xs) (xs:=xs) rfl (fun i x hx=>by
  have hi:=(List.getElem?_eq_some_iff.1 hx).1
  unfold i_isSet_b0 stepUp
  rw[idx_nat,hx]
  simp only[Option.bind_some,orE,not_inR]
  cases inR n x with
  | false=>rfl
  | true=>
   by_cases hi0:0<i
   · obtain⟨y,⟨e1,e2⟩ | e⟩:=prev_get hi hi0
     · have e3:decide (x≤y)= !decide (y<x):=by rw[← decide_not];exact decide_eq_decide.2 (by omega)
       simp only[e1,e2,show(0:Int)<(i:Int) from by omega,hi0,decide_true,Bool.not_true,cond_false,cond_true,Option.bind_some,e3,Bool.true_and,Bool.false_or]
       cases decide (y<x) <;> rfl
     · omega
   · have:¬(0:Int)<(i:Int):=by omega
     simp[hi0,this])]
 unfold setOk
 cases List.all xs.zipIdx (fun p=>stepUp n xs p.2 p.1) <;> rfl
end Go.Proofs.YtmiilifclnanlaaGreat
set_option linter.unusedVariables false
set_option linter.unusedSimpArgs false
namespace Go.Proofs.YtmiilifclnanlaaGreat
open Go Go.Wk Go.Proofs
def vertOk (a:Arena) (i:Nat) (row:List Int):Bool:=(match a.Owner[i]? with | some o=>inR 2 o | none=>false)&&decide ((1:Int)≤row.length)&&decide ((row.length:Int)≤16)&&setOk (a.Owner.length:Int) row
def arenaOk (a:Arena):Bool:=decide (1≤(a.Owner.length:Int))&&decide ((a.Owner.length:Int)≤256)&&((a.Next.length:Int)==(a.Owner.length:Int))&&a.Next.zipIdx.all (fun p=>vertOk a p.2 p.1)
def parityOk (g:Parity):Bool:=arenaOk g.Arena&&((g.Prio.length:Int)==(g.Arena.Owner.length:Int))&&g.Prio.all (inR 41)
theorem s_ArenaOk_eq (a:Arena):s_ArenaOk a=some (arenaOk a):=by
 unfold s_ArenaOk arenaOk
 rw[s_l1In_eq,Option.bind_some]
 cases h1:(decide (1≤(a.Owner.length:Int))&&decide ((a.Owner.length:Int)≤256)) with
 | false=>rfl
 | true=>
  simp only[Bool.and_eq_true,decide_eq_true_eq]at h1
  simp only[Bool.not_true,cond_false,Option.bind_some,Bool.true_and,bne]
  cases h2:((a.Next.length:Int)==(a.Owner.length:Int)) with
  | false=>rfl
  | true=>
   have hl:a.Owner.length=a.Next.length:=by have:=beq_iff_eq.1 h2;omega
   rw[cnt_allP (f:=s_ArenaOk_b0 a) (r:=false) (vertOk a) (xs:=a.Next) hl (fun i row hx=>by
    have hi:=(List.getElem?_eq_some_iff.1 hx).1
    obtain⟨o,ho⟩:∃o,a.Owner[i]? =some o:=⟨_,List.getElem?_eq_getElem (by omega)⟩
    have hv:vertOk a i row=(inR 2 o&&decide ((1:Int)≤row.length)&&decide ((row.length:Int)≤16)&&setOk (a.Owner.length:Int) row):=by unfold vertOk;rw[ho]
    rw[hv]
    unfold s_ArenaOk_b0
    rw[idx_nat,idx_nat,ho,hx]
    simp only[Option.bind_some,s_l1In_eq,in2]
    cases inR 2 o with
    | false=>rfl
    | true=>
     simp only[Bool.not_true,cond_false,Option.bind_some,gt_not,Bool.true_and]
     cases h3:decide ((1:Int)≤row.length) with
     | false=>rfl
     | true=>
      simp only[Bool.not_true,cond_false,Option.bind_some,Bool.true_and]
      cases h4:decide ((row.length:Int)≤16) with
      | false=>rfl
      | true=>
       have h4:=of_decide_eq_true h4
       rw[s_l1Set_eq (by omega) (by omega) (by omega)]
       simp only[Bool.not_true,cond_false,Option.bind_some,Bool.true_and]
       cases setOk (a.Owner.length:Int) row <;> rfl)]
   simp only[Bool.not_true,cond_false,Option.bind_some,Bool.true_and]
   cases List.all a.Next.zipIdx (fun p=>vertOk a p.2 p.1) <;> rfl
theorem i_ArenaOk_eq (a:Arena):i_ArenaOk a=some (arenaOk a):=by
 unfold i_ArenaOk arenaOk
 simp only[orE,Option.bind_some,gt_not,bne]
 rw[show(!decide (1≤(a.Owner.length:Int)) || !decide ((a.Owner.length:Int)≤256) || !((a.Next.length:Int)==(a.Owner.length:Int)))= !(decide (1≤(a.Owner.length:Int))&&decide ((a.Owner.length:Int)≤256)&&((a.Next.length:Int)==(a.Owner.length:Int))) from by simp only[Bool.not_and]]
 cases h1:(decide (1≤(a.Owner.length:Int))&&decide ((a.Owner.length:Int)≤256)&&((a.Next.length:Int)==(a.Owner.length:Int))) with
 | false=>rfl
 | true=>
  simp only[Bool.and_eq_true,decide_eq_true_eq,beq_iff_eq]at h1
  simp only[Bool.not_true,cond_false,Option.bind_some,Bool.true_and]
  rw[cnt_allP (f:=i_ArenaOk_b0 a) (r:=false) (vertOk a) (xs:=a.Next) rfl (fun i row hx=>by
   have hi:=(List.getElem?_eq_some_iff.1 hx).1
   obtain⟨o,ho⟩:∃o,a.Owner[i]? =some o:=⟨_,List.getElem?_eq_getElem (by omega)⟩
   have hv:vertOk a i row=(inR 2 o&&decide ((1:Int)≤row.length)&&decide ((row.length:Int)≤16)&&setOk (a.Owner.length:Int) row):=by unfold vertOk;rw[ho]
   rw[hv]
   unfold i_ArenaOk_b0
   rw[idx_nat,idx_nat,ho,hx]
   simp only[Option.bind_some]
   have hx2:(decide (o<0)||decide (1<o))= !(inR 2 o):=by
    rw[← not_inR];congr 1
   rw[orE,Option.bind_some,hx2]
   cases inR 2 o with
   | false=>rfl
   | true=>
    simp only[Bool.not_true,cond_false,Option.bind_some,gt_not,Bool.true_and]
    cases h3:decide ((1:Int)≤row.length) with
    | false=>rfl
    | true=>
     simp only[Bool.not_true,cond_false,Option.bind_some,Bool.true_and]
     cases h4:decide ((row.length:Int)≤16) with
     | false=>rfl
     | true=>
      have h4:=of_decide_eq_true h4
      rw[i_isSet_eq (by omega)]
      simp only[Bool.not_true,cond_false,Option.bind_some,Bool.true_and]
      cases setOk (a.Owner.length:Int) row <;> rfl)]
  simp only[Bool.not_true,cond_false,Option.bind_some,Bool.true_and]
  cases List.all a.Next.zipIdx (fun p=>vertOk a p.2 p.1) <;> rfl
theorem s_ParityOk_eq (g:Parity):s_ParityOk g=some (parityOk g):=by
 unfold s_ParityOk parityOk
 rw[s_ArenaOk_eq,Option.bind_some,orE,Option.bind_some,bne,← Bool.not_and]
 cases h1:(arenaOk g.Arena&&((g.Prio.length:Int)==(g.Arena.Owner.length:Int))) with
 | false=>rfl
 | true=>
  simp only[Bool.not_true,cond_false]
  rw[cnt_all0 (f:=s_ParityOk_b0 g) (r:=false) (inR 41) (xs:=g.Prio) rfl (fun i y hy=>by
   unfold s_ParityOk_b0
   rw[idx_nat,hy,Option.bind_some,s_l1In_eq,Option.bind_some,in41]
   cases inR 41 y <;> rfl)]
  cases g.Prio.all (inR 41) <;> rfl
theorem i_ParityOk_eq (g:Parity):i_ParityOk g=some (parityOk g):=by
 unfold i_ParityOk parityOk
 rw[i_ArenaOk_eq,Option.bind_some,orE,Option.bind_some,bne,← Bool.not_and]
 cases h1:(arenaOk g.Arena&&((g.Prio.length:Int)==(g.Arena.Owner.length:Int))) with
 | false=>rfl
 | true=>
  simp only[Bool.not_true,cond_false]
  rw[cnt_all0 (f:=i_ParityOk_b0 g) (r:=false) (inR 41) (xs:=g.Prio) rfl (fun i y hy=>by
   unfold i_ParityOk_b0
   rw[idx_nat,hy,Option.bind_some,orE,Option.bind_some]
   have hx2:(decide (y<0)||decide (40<y))= !(inR 41 y):=by
    rw[← not_inR];congr 1
   rw[hx2]
   cases inR 41 y <;> rfl)]
  cases g.Prio.all (inR 41) <;> rfl
theorem parityOk_spec {g:Parity}(h:parityOk g=true):1≤g.Arena.Owner.length∧g.Arena.Owner.length≤256∧g.Arena.Next.length=g.Arena.Owner.length∧g.Prio.length=g.Arena.Owner.length ∧
 (∀(i:Nat) row,g.Arena.Next[i]? =some row→1≤row.length∧row.length≤16∧setOk (g.Arena.Owner.length:Int) row=true):=by
 simp only[parityOk,arenaOk,Bool.and_eq_true,decide_eq_true_eq,beq_iff_eq]at h
 obtain⟨⟨⟨⟨⟨h1,h2⟩,h3⟩,h4⟩,h5⟩,h6⟩:=h
 refine⟨by omega,by omega,by omega,by omega,fun i row hr=>?_⟩
 rw[List.all_eq_true]at h4
 have:=h4 (row,i) (List.mem_zipIdx_iff_getElem?.2 hr)
 simp only[vertOk,Bool.and_eq_true,decide_eq_true_eq]at this
 exact⟨by omega,by omega,this.2⟩
def hasI (row:List Int) (v:Int):Bool:=row.any (fun x=>v==x)
theorem s_l16Has_eq (row:List Int) (v:Int):s_l16Has row v=some (hasI row v):=by
 unfold s_l16Has
 rw[cnt_all0 (f:=s_l16Has_b0 row v) (r:=true) (fun x=> !(v==x)) (xs:=row) rfl (fun i y hy=>by
  unfold s_l16Has_b0
  rw[idx_nat,hy,Option.bind_some,show(y==v)=(v==y) from BEq.comm]
  cases v==y <;> rfl)]
 unfold hasI
 rw[List.any_eq_not_all_not]
 cases row.all (fun x=> !(v==x)) <;> rfl
def editRow (n:Int) (row:List Int) (e:Edit):Bool:=
 bif e.Kind==1 then inR 41 e.N else bif e.Kind==2 then inR 2 e.N else bif e.Kind==3 then inR n e.N && !(hasI row e.N)&&decide ((row.length:Int)<16) else bif e.Kind==4 then hasI row e.N&&decide (1<(row.length:Int)) else false
def editOk (g:Parity) (e:Edit):Bool:=inR (g.Arena.Owner.length:Int) e.V&&(match g.Arena.Next[e.V.toNat]? with | some row=>editRow (g.Arena.Owner.length:Int) row e | none=>false)
theorem s_EditOk_eq (g:Parity) (e:Edit):s_EditOk g e=some (parityOk g&&editOk g e):=by
 unfold s_EditOk editOk
 rw[s_ParityOk_eq,Option.bind_some]
 cases hp:parityOk g with
 | false=>rfl
 | true=>
  obtain⟨h1,h2,h3,h4,h5⟩:=parityOk_spec hp
  simp only[Bool.not_true,cond_false,h4,wr' (z:=(g.Arena.Owner.length:Int)-1) (by omega) (by omega),s_l1In_eq,inR_one,Option.bind_some,Bool.true_and]
  cases hv:inR (g.Arena.Owner.length:Int) e.V with
  | false=>rfl
  | true=>
   obtain⟨v0,v1⟩:=inR_iff.1 hv
   have hr:g.Arena.Next[e.V.toNat]? =some (g.Arena.Next[e.V.toNat]'(by omega)):=List.getElem?_eq_getElem (by omega)
   rw[idx_int v0,hr]
   generalize g.Arena.Next[e.V.toNat]'(by omega)=row
   simp only[Bool.not_true,cond_false,Option.bind_some,Bool.true_and,in41,in2,s_l16Has_eq]
   unfold editRow
   cases e.Kind==1 <;> cases e.Kind==2 <;> cases e.Kind==3 <;> cases e.Kind==4 <;> cases inR (g.Arena.Owner.length:Int) e.N <;> cases hasI row e.N <;> rfl
theorem i_hasVertex_eq (a:Arena) (v:Int):i_hasVertex a v=some (inR (a.Owner.length:Int) v):=by
 unfold i_hasVertex i_size inR
 simp only[Option.bind_some,andE]
theorem i_isPlayer_eq (v:Int):i_isPlayer v=some (inR 2 v):=by
 unfold i_isPlayer
 rw[orE,Option.bind_some]
 congr 1
 by_cases h0:v=0
 · subst h0;rfl
 · by_cases h1:v=1
   · subst h1;rfl
   · have e1:(v==0)=false:=by simp[h0]
     have e2:(v==1)=false:=by simp[h1]
     rw[e1,e2]
     unfold inR
     by_cases h2:0≤v
     · have:¬v<2:=by omega
       simp[this]
     · simp[h2]
theorem i_isEdit_eq {g:Parity}(hp:parityOk g=true) (e:Edit):i_isEdit g e=some (editOk g e):=by
 unfold i_isEdit editOk
 obtain⟨h1,h2,h3,h4,h5⟩:=parityOk_spec hp
 simp only[i_hasVertex_eq,Option.bind_some,i_isPlayer_eq,andE,in41]
 cases hv:inR (g.Arena.Owner.length:Int) e.V with
 | false=>rfl
 | true=>
  obtain⟨v0,v1⟩:=inR_iff.1 hv
  have hr:g.Arena.Next[e.V.toNat]? =some (g.Arena.Next[e.V.toNat]'(by omega)):=List.getElem?_eq_getElem (by omega)
  rw[idx_int v0,hr]
  generalize g.Arena.Next[e.V.toNat]'(by omega)=row
  simp only[Bool.not_true,cond_false,Option.bind_some,Bool.true_and,slices_Contains_I_int64_eq]
  unfold editRow
  rw[show(row.any fun x=>e.N==x)=hasI row e.N from rfl]
  cases e.Kind==1 <;> cases e.Kind==2 <;> cases e.Kind==3 <;> cases e.Kind==4 <;> cases inR (g.Arena.Owner.length:Int) e.N <;> cases hasI row e.N <;> rfl
end Go.Proofs.YtmiilifclnanlaaGreat
set_option linter.unusedVariables false
set_option linter.unusedSimpArgs false
namespace Go.Proofs.YtmiilifclnanlaaGreat
open Go Go.Wk Go.Proofs
abbrev Asc (xs:List Int):Prop:=xs.Pairwise (· < ·)
theorem asc_eq:∀{xs ys:List Int},Asc xs→Asc ys→(∀z,z∈xs↔z∈ys)→xs=ys
 | [],[],_,_,_=>rfl
 | [],y::ys,_,_,h=>by have:=(h y).2 (List.mem_cons_self ..);cases this
 | x::xs,[],_,_,h=>by have:=(h x).1 (List.mem_cons_self ..);cases this
 | x::xs,y::ys,hx,hy,h=>by
  have hx':=List.pairwise_cons.1 hx
  have hy':=List.pairwise_cons.1 hy
  have e:x=y:=by
   have h1:=(h x).1 (List.mem_cons_self ..)
   have h2:=(h y).2 (List.mem_cons_self ..)
   rcases List.mem_cons.1 h1 with h1 | h1
   · exact h1
   · rcases List.mem_cons.1 h2 with h2 | h2
     · exact h2.symm
     · have:=hx'.1 y h2
       have:=hy'.1 x h1
       omega
  subst e
  congr 1
  refine asc_eq hx'.2 hy'.2 fun z=>?_
  have hz:=h z
  rw[List.mem_cons,List.mem_cons]at hz
  constructor
  · intro hm
    have:=hx'.1 z hm
    rcases hz.1 (.inr hm) with e | hm'
    · omega
    · exact hm'
  · intro hm
    have:=hy'.1 z hm
    rcases hz.2 (.inr hm) with e | hm'
    · omega
    · exact hm'
theorem asc_of:∀{xs:List Int},(∀(i:Nat) x y,xs[i]? =some x→xs[i+1]? =some y→x<y)→Asc xs
 | [],_=>List.Pairwise.nil
 | [x],_=>by simp
 | x::y::r,h=>by
  have ih:=asc_of (xs:=y::r) (fun i a b ha hb=>h (i+1) a b ha hb)
  have hxy:=h 0 x y rfl rfl
  refine List.pairwise_cons.2 ⟨fun z hz=>?_,ih⟩
  rcases List.mem_cons.1 hz with rfl | hz
  · exact hxy
  · have:=(List.pairwise_cons.1 ih).1 z hz
    omega
theorem setOk_iff {n:Int}{xs:List Int}:setOk n xs=true↔(∀x∈xs,0≤x∧x<n)∧Asc xs:=by
 constructor
 · intro h
   obtain⟨h1,h2⟩:=setOk_spec h
   refine⟨fun x hx=>?_,asc_of h2⟩
   obtain⟨i,hi⟩:=List.mem_iff_getElem?.1 hx
   exact h1 i x hi
 · rintro⟨h1,h2⟩
   unfold setOk
   rw[List.all_eq_true]
   rintro⟨x,i⟩ hx
   have hx:=List.mem_zipIdx_iff_getElem?.1 hx
   dsimp only at hx ⊢
   unfold stepUp
   rw[Bool.and_eq_true]
   refine⟨inR_iff.2 (h1 x (List.mem_of_getElem? hx)),?_⟩
   by_cases hi:0<i
   · have hlt:=(List.getElem?_eq_some_iff.1 hx).1
     have hy:xs[i-1]? =some (xs[i-1]'(by omega)):=List.getElem?_eq_getElem (by omega)
     have:=List.pairwise_iff_getElem.1 h2 (i-1) i (by omega) hlt (by omega)
     rw[(List.getElem?_eq_some_iff.1 hx).2]at this
     rw[hy]
     simp[this]
   · simp[hi]
theorem asc_get {xs:List Int}(h:Asc xs){i j:Nat}{x y:Int}(hi:xs[i]? =some x) (hj:xs[j]? =some y) (hij:i<j):x<y:=by
 obtain⟨h1,e1⟩:=List.getElem?_eq_some_iff.1 hi
 obtain⟨h2,e2⟩:=List.getElem?_eq_some_iff.1 hj
 rw[← e1,← e2]
 exact List.pairwise_iff_getElem.1 h i j h1 h2 hij
theorem asc_nodup {xs:List Int}(h:Asc xs):xs.Nodup:=List.Pairwise.imp (fun h e=>by omega) h
theorem sort_asc {xs:List Int}(h:xs.Nodup):Asc (xs.mergeSort fun x y=>decide (x≤y)):=by
 have h1:(xs.mergeSort fun x y=>decide (x≤y)).Pairwise (fun a b=>decide (a≤b)=true):=List.pairwise_mergeSort (fun a b c h1 h2=>by simp only[decide_eq_true_eq]at *;omega) (fun a b=>by simp only[Bool.or_eq_true,decide_eq_true_eq];omega) xs
 have h2:(xs.mergeSort fun x y=>decide (x≤y)).Nodup:=(List.mergeSort_perm xs _).nodup_iff.2 h
 have h3:=List.Pairwise.and h1 h2
 exact h3.imp fun⟨ha,hb⟩=>by
  simp only[decide_eq_true_eq]at ha
  have:∀{a b:Int},a≤b→a≠b→a<b:=fun h1 h2=>by omega
  exact this ha hb
def ins (n:Int) (xs:List Int):List Int:=xs.filter (fun x=>decide (x<n))++n::xs.filter (fun x=>decide (n<x))
theorem ins_mem {n:Int}{xs:List Int}(hn:n∉xs) (z:Int):z∈ins n xs↔z=n∨z∈xs:=by
 unfold ins
 simp only[List.mem_append,List.mem_cons,List.mem_filter,decide_eq_true_eq]
 constructor
 · rintro(⟨h,_⟩ | rfl | ⟨h,_⟩)
   · exact .inr h
   · exact .inl rfl
   · exact .inr h
 · rintro(rfl | h)
   · exact .inr (.inl rfl)
   · rcases Int.lt_trichotomy z n with hlt | heq | hgt
     · exact .inl ⟨h,hlt⟩
     · exact absurd (heq ▸ h) hn
     · exact .inr (.inr ⟨h,hgt⟩)
theorem ins_asc {n:Int}{xs:List Int}(h:Asc xs):Asc (ins n xs):=by
 unfold ins
 refine List.pairwise_append.2 ⟨h.filter _,List.pairwise_cons.2 ⟨fun z hz=>?_,h.filter _⟩,fun a ha b hb=>?_⟩
 · simp only[List.mem_filter,decide_eq_true_eq]at hz;exact hz.2
 · simp only[List.mem_filter,decide_eq_true_eq]at ha
   rcases List.mem_cons.1 hb with rfl | hb
   · exact ha.2
   · simp only[List.mem_filter,decide_eq_true_eq]at hb;omega
theorem ins_length {n:Int}{xs:List Int}(hn:n∉xs) (h:Asc xs):(ins n xs).length=xs.length+1:=by
 have h1:(n::xs).Nodup:=List.nodup_cons.2 ⟨hn,asc_nodup h⟩
 have h2:(ins n xs).Perm (n::xs):=(List.perm_ext_iff_of_nodup (asc_nodup (ins_asc h)) h1).2 fun z=>by rw[ins_mem hn,List.mem_cons]
 rw[h2.length_eq,List.length_cons]
theorem ins_cut {n:Int}{xs:List Int}(h:Asc xs) (hn:n∉xs){k:Nat}(hk:k≤xs.length) (h1:∀(i:Nat) x,i<k→xs[i]? =some x→x<n) (h2:∀x,xs[k]? =some x→n<x):xs.take k++n::xs.drop k=ins n xs:=by
 refine asc_eq ?_ (ins_asc h) fun z=>?_
 · have hT:∀z∈xs.take k,z<n:=fun z hz=>by
    obtain⟨i,hi⟩:=List.mem_iff_getElem?.1 hz
    rw[List.getElem?_take]at hi
    split at hi
    · rename_i hik;exact h1 i z hik hi
    · cases hi
   have hD:∀z∈xs.drop k,n<z:=fun z hz=>by
    obtain⟨i,hi⟩:=List.mem_iff_getElem?.1 hz
    rw[List.getElem?_drop]at hi
    have hlt:=(List.getElem?_eq_some_iff.1 hi).1
    have hx:xs[k]? =some (xs[k]'(by omega)):=List.getElem?_eq_getElem (by omega)
    have:=h2 _ hx
    rcases Nat.eq_zero_or_pos i with e | e
    · subst e
      rw[Nat.add_zero,hx]at hi
      cases hi;exact this
    · have:=asc_get h hx hi (by omega)
      omega
   refine List.pairwise_append.2 ⟨h.sublist (List.take_sublist ..),List.pairwise_cons.2 ⟨hD,h.sublist (List.drop_sublist ..)⟩,fun a ha b hb=>?_⟩
   have:=hT a ha
   rcases List.mem_cons.1 hb with rfl | hb
   · exact this
   · have:=hD b hb;omega
 · rw[ins_mem hn,List.mem_append,List.mem_cons]
   have:z∈xs↔z∈xs.take k∨z∈xs.drop k:=by rw[← List.mem_append,List.take_append_drop]
   rw[this]
   constructor
   · rintro(h | h | h)
     · exact .inr (.inl h)
     · exact .inl h
     · exact .inr (.inr h)
   · rintro(h | h | h)
     · exact .inr (.inl h)
     · exact .inl h
     · exact .inr (.inr h)
theorem sort_ins {n:Int}{xs:List Int}(h:Asc xs) (hn:n∉xs):((xs++[n]).mergeSort fun x y=>decide (x≤y))=ins n xs:=by
 refine asc_eq (sort_asc ?_) (ins_asc h) fun z=>?_
 · rw[List.nodup_append]
   refine⟨asc_nodup h,by simp,fun a ha b hb e=>?_⟩
   rw[List.mem_singleton]at hb
   subst hb
   exact hn (e ▸ ha)
 · rw[(List.mergeSort_perm _ _).mem_iff,ins_mem hn,List.mem_append,List.mem_singleton]
   exact Or.comm
end Go.Proofs.YtmiilifclnanlaaGreat
set_option linter.unusedVariables false
set_option linter.unusedSimpArgs false
namespace Go.Proofs.YtmiilifclnanlaaGreat
open Go Go.Wk Go.Proofs
theorem less_eq (a b:Int):cmp_Less_int64 a b=some (decide (a<b)):=by
 unfold cmp_Less_int64 cmp_isNaN_int64
 simp
theorem mid_eq {i j:Int}(h0:0≤i) (h1:0≤j) (h2:i+j≤1000000):IntKind.i64.wrap (Int.fdiv (IntKind.u64.wrap (IntKind.i64.wrap (i+j))) (2 ^ (min (Int.toNat 1) (IntKind.bits IntKind.u64))))=(i+j) / 2:=by
 have e1:(2:Int) ^ (min (Int.toNat 1) (IntKind.bits IntKind.u64))=2:=by decide
 have e2:IntKind.u64.wrap (i+j)=i+j:=by rw[IntKind.wrap_u64];omega
 rw[e1,wr' (z:=i+j) (by omega) (by omega),e2,fdiv_pos (by omega),wr' (by omega) (by omega)]
theorem search_eq {xs:List Int}(h:Asc xs) (hl:xs.length≤100000) (x:Int):∃p,slices_BinarySearch_I_int64 xs x=some (p,decide (x∈xs)):=by
 obtain⟨o,w1,w2⟩:=while_out (f:=slices_BinarySearch_I_int64_b0 xs x) (fun c (s:Int×Int)=>0≤s.1∧s.1≤s.2∧s.2≤xs.length∧s.2-s.1+c≤xs.length∧(∀(k:Nat) y,(k:Int)<s.1→xs[k]? =some y→y<x)∧(∀(k:Nat) y,s.2≤(k:Int)→xs[k]? =some y→x≤y)) (fun _=>False)
  (fun s=>s.1=s.2∧0≤s.1∧s.2≤xs.length∧(∀(k:Nat) y,(k:Int)<s.1→xs[k]? =some y→y<x)∧(∀(k:Nat) y,s.2≤(k:Int)→xs[k]? =some y→x≤y)) xs.length
  (fun c s ⟨i0,i1,i2,i3,i4,i5⟩=>by
   obtain⟨i,j⟩:=s
   dsimp only at i0 i1 i2 i3 i4 i5 ⊢
   unfold slices_BinarySearch_I_int64_b0
   dsimp only
   by_cases hlt:i<j
   · have hm:=mid_eq (i:=i) (j:=j) i0 (by omega) (by omega)
     obtain⟨y,hy,_⟩:=get_el (xs:=xs) (z:=(i+j) / 2) (by omega) (by omega)
     simp only[hlt,decide_true,cond_true,hm,hy,Option.bind_some,less_eq]
     obtain⟨m,hmn⟩:=ex_nat (z:=(i+j) / 2) (by omega)
     rw[hmn,idx_nat]at hy
     rw[hmn]
     by_cases hyx:y<x
     · simp only[hyx,decide_true,cond_true,Option.bind_some]
       rw[wr' (by omega) (by omega)]
       refine⟨_,rfl,by omega,?_,?_,?_,?_,?_,i5⟩
       · dsimp only;omega
       · dsimp only;omega
       · dsimp only;omega
       · dsimp only;omega
       · intro k z hk hz
         dsimp only at hk
         by_cases hkm:k=m
         · subst hkm;rw[hy]at hz;cases hz;exact hyx
         · have:=asc_get h hz hy (by omega);omega
     · simp only[hyx,decide_false,cond_false,Option.bind_some]
       refine⟨_,rfl,by omega,i0,?_,?_,?_,i4,?_⟩
       · dsimp only;omega
       · dsimp only;omega
       · dsimp only;omega
       · intro k z hk hz
         dsimp only at hk
         by_cases hkm:k=m
         · subst hkm;rw[hy]at hz;cases hz;omega
         · have:=asc_get h hy hz (by omega);omega
   · simp only[hlt,decide_false,cond_false]
     exact⟨_,rfl,by dsimp only;omega,i0,by dsimp only;omega,i4,i5⟩)
  (2 ^ 64) 0 (0,(xs.length:Int)) (by omega) ⟨Int.le_refl 0,by dsimp only;omega,by dsimp only;omega,by dsimp only;omega,fun k y hk=>by dsimp only at hk;omega,fun k y hk hy=>by have:=(List.getElem?_eq_some_iff.1 hy).1;dsimp only at hk;omega⟩ (by omega)
 match o,w2 with
 | .inr s,⟨e,i0,i2,i4,i5⟩=>
  obtain⟨i,j⟩:=s
  dsimp only at e i0 i2 i4 i5
  subst e
  obtain⟨i,rfl⟩:=ex_nat i0
  refine⟨(i:Int),?_⟩
  unfold slices_BinarySearch_I_int64
  rw[w1,Option.bind_some,aft_inr]
  dsimp only
  by_cases hlt:(i:Int)<(xs.length:Int)
  · have hy:xs[i]? =some (xs[i]'(by omega)):=List.getElem?_eq_getElem (by omega)
    have hiy:=i5 i _ (by omega) hy
    have hym:=List.getElem_mem (show i<xs.length by omega)
    generalize xs[i]'(by omega)=y at hy hiy hym
    simp only[hlt,decide_true,cond_true,idx_nat,hy,Option.bind_some]
    by_cases hyx:y=x
    · subst hyx
      simp[hym]
    · have hb:(y==x)=false:=by simp[hyx]
      have hno:x∉xs:=fun hm=>by
       obtain⟨k,hk⟩:=List.mem_iff_getElem?.1 hm
       rcases Nat.lt_trichotomy k i with hki | hki | hki
       · have:=i4 k x (by omega) hk;omega
       · subst hki;rw[hy]at hk;exact hyx (Option.some.inj hk)
       · have:=asc_get h hy hk hki;omega
      unfold slices_isNaN_int64
      simp[hb,hno]
  · have hno:x∉xs:=fun hm=>by
     obtain⟨k,hk⟩:=List.mem_iff_getElem?.1 hm
     have:=(List.getElem?_eq_some_iff.1 hk).1
     have:=i4 k x (by omega) hk
     omega
    simp[hlt,hno]
theorem lessOf_eq {xs ys:List Int}(h:Asc ys) (hl:ys.length≤100000) (hx:xs.length≤100000):i_lessOf xs ys=some (xs.filter fun x=> !decide (x∈ys)):=by
 unfold i_lessOf
 obtain⟨s,h1,h2⟩:=cnt_inv (f:=i_lessOf_b0 xs ys) (fun j s=>s=(xs.take j).filter fun x=> !decide (x∈ys)) xs.length (s:=[]) rfl (fun j s hj hs=>by
  subst hs
  have hxj:xs[j]? =some xs[j]:=by simp[hj]
  obtain⟨p,hp⟩:=search_eq h hl xs[j]
  have hlen:((xs.take j).filter fun x=> !decide (x∈ys)).length≤100000:=Nat.le_trans (List.length_filter_le ..) (by rw[List.length_take];omega)
  unfold i_lessOf_b0
  rw[idx_nat,hxj,Option.bind_some,hp,Option.bind_some,List.take_add_one,hxj]
  simp only[Option.toList_some,List.filter_append]
  cases hd:decide (xs[j]∈ys) with
  | true=>
   refine⟨_,rfl,?_⟩
   simp only[decide_eq_true_eq]at hd
   simp[hd]
  | false=>
   simp only[Bool.not_false,cond_true]
   rw[app1 (by omega) rfl]
   refine⟨_,rfl,?_⟩
   simp only[decide_eq_false_iff_not]at hd
   simp[hd])
 rw[h1,h2,List.take_length]
 rfl
end Go.Proofs.YtmiilifclnanlaaGreat
set_option linter.unusedVariables false
set_option linter.unusedSimpArgs false
namespace Go.Proofs.YtmiilifclnanlaaGreat
open Go Go.Wk Go.Proofs
theorem into_eq {xs:List Int}(h:Asc xs){n:Int}(hn:n∉xs) (hl:xs.length≤100000):s_l1Into xs n=some (ins n xs):=by
 obtain⟨o,w1,w2⟩:=while_out (f:=s_l1Into_b0 xs n) (fun j (s:Int)=>s=(j:Int)∧j≤xs.length∧∀(i:Nat) x,i<j→xs[i]? =some x→x<n) (fun _=>False) (fun s=>∃k:Nat,s=(k:Int)∧k≤xs.length∧(∀(i:Nat) x,i<k→xs[i]? =some x→x<n)∧∀x,xs[k]? =some x→n<x) xs.length (fun j s ⟨e,hj,hall⟩=>by
  subst e
  unfold s_l1Into_b0
  by_cases hlt:(j:Int)<(xs.length:Int)
  · have hxj:xs[j]? =some (xs[j]'(by omega)):=List.getElem?_eq_getElem (by omega)
    have hm:=List.getElem_mem (show j<xs.length by omega)
    generalize xs[j]'(by omega)=x at hxj hm
    simp only[hlt,decide_true,cond_true,idx_nat,hxj,Option.bind_some]
    by_cases hxn:x<n
    · simp only[hxn,decide_true,cond_true]
      refine⟨_,rfl,by omega,by rw[wr' (by omega) (by omega)];omega,by omega,fun i y hi hy=>?_⟩
      by_cases hij:i=j
      · subst hij;rw[hxj]at hy;cases hy;exact hxn
      · exact hall i y (by omega) hy
    · simp only[hxn,decide_false,cond_false]
      refine⟨_,rfl,j,rfl,hj,hall,fun y hy=>?_⟩
      rw[hxj]at hy
      cases hy
      have:x≠n:=fun e=>hn (e ▸ hm)
      omega
  · simp only[hlt,decide_false,cond_false,Option.bind_some]
    exact⟨_,rfl,j,rfl,hj,hall,fun y hy=>by have:=(List.getElem?_eq_some_iff.1 hy).1;omega⟩)
  (2 ^ 64) 0 0 (by omega) ⟨rfl,by omega,fun i x hi=>by omega⟩ (by omega)
 match o,w2 with
 | .inr s,⟨k,e,hk,h1,h2⟩=>
  subst e
  unfold s_l1Into
  rw[w1,Option.bind_some,aft_inr]
  have hc:(Option.bind (bif decide ((k:Int)<(xs.length:Int)) then Option.bind (idx xs (k:Int)) fun x28=>some (x28==n) else some false) fun p32=>bif p32 then some xs else
   Option.bind (subS xs 0 (k:Int)) fun x36=>Option.bind (s_l1Copy x36) fun x37=>Option.bind (appS 8 x37 [n]) fun x40=>Option.bind (subS xs (k:Int) (xs.length:Int)) fun x44=>Option.bind (appS 8 x40 x44) fun x45=>some x45)=some (xs.take k++[n]++xs.drop k):=by
   have hp:(bif decide ((k:Int)<(xs.length:Int)) then Option.bind (idx xs (k:Int)) fun x28=>some (x28==n) else some false)=some false:=by
    by_cases hlt:(k:Int)<(xs.length:Int)
    · have hxk:xs[k]? =some (xs[k]'(by omega)):=List.getElem?_eq_getElem (by omega)
      have:=h2 _ hxk
      have hne:(xs[k]'(by omega)==n)=false:=by
       rw[beq_eq_false_iff_ne];omega
      simp only[hlt,decide_true,cond_true,idx_nat,hxk,Option.bind_some,hne]
    · simp only[hlt,decide_false,cond_false]
   have hs1:subS xs 0 (k:Int)=some (xs.take k):=by
    unfold subS
    rw[if_pos (by omega),Int.toNat_natCast];rfl
   have hs2:subS xs (k:Int) (xs.length:Int)=some (xs.drop k):=by
    unfold subS
    rw[if_pos (by omega),Int.toNat_natCast,Int.toNat_natCast,List.take_length]
   have ht:(xs.take k).length≤100000:=by rw[List.length_take];omega
   rw[hp,Option.bind_some]
   simp only[cond_false]
   rw[hs1,Option.bind_some]
   unfold s_l1Copy
   rw[appL (by rw[List.length_nil];omega) rfl,Option.bind_some,Option.bind_some,List.nil_append,app1 (by omega) rfl,Option.bind_some,hs2,Option.bind_some,appL (by rw[List.length_append,List.length_drop,List.length_singleton];omega) rfl]
   rfl
  rw[hc,List.append_assoc,List.singleton_append,ins_cut h hn hk h1 h2]
theorem s_copy {xs:List Int}(hl:xs.length≤10000000):s_l1Copy xs=some xs:=by
 unfold s_l1Copy
 rw[appL (by rw[List.length_nil];omega) rfl];rfl
end Go.Proofs.YtmiilifclnanlaaGreat
set_option linter.unusedVariables false
set_option linter.unusedSimpArgs false
namespace Go.Proofs.YtmiilifclnanlaaGreat
open Go Go.Wk Go.Proofs
theorem bothOf_eq {xs:List Int}(h:Asc xs){n:Int}(hn:n∉xs) (hl:xs.length≤100000):i_bothOf xs [n]=some (ins n xs):=by
 unfold i_bothOf
 rw[appL (by rw[List.length_nil];omega) rfl,Option.bind_some,lessOf_eq h hl (by simp)]
 have e:([n].filter fun x=> !decide (x∈xs))=[n]:=by simp[hn]
 rw[Option.bind_some,e,List.nil_append,app1 (by omega) rfl,Option.bind_some]
 unfold slices_Sort_I_int64
 rw[if_pos (by rw[List.length_append,List.length_singleton];omega),sort_ins h hn]
 rfl
theorem s_l4Copy_eq {g:Parity}(hp:parityOk g=true):s_l4Copy g=some g:=by
 obtain⟨h1,h2,h3,h4,h5⟩:=parityOk_spec hp
 unfold s_l4Copy s_l1CopyArena
 rw[s_copy (by omega),Option.bind_some]
 obtain⟨s,e1,e2⟩:=cnt_inv (f:=s_l1CopyArena_b0 g.Arena) (fun j s=>s=g.Arena.Next.take j) g.Arena.Next.length (s:=[]) rfl (fun j s hj hs=>by
  subst hs
  have hx:g.Arena.Next[j]? =some g.Arena.Next[j]:=by simp[hj]
  have:=h5 j _ hx
  unfold s_l1CopyArena_b0
  rw[idx_nat,hx,Option.bind_some,s_copy (by omega),Option.bind_some,app1 (by rw[List.length_take];omega) rfl]
  refine⟨_,rfl,?_⟩
  rw[List.take_add_one,hx];rfl)
 rw[e1,e2,List.take_length,Option.bind_some,aft_inr,Option.bind_some,s_copy (by omega)]
 rfl
theorem i_copyParity_eq {g:Parity}(hp:parityOk g=true):i_copyParity g=some g:=by
 obtain⟨h1,h2,h3,h4,h5⟩:=parityOk_spec hp
 unfold i_copyParity i_copyArena i_copyLists
 rw[appL (by rw[List.length_nil];omega) rfl,Option.bind_some]
 obtain⟨s,e1,e2⟩:=cnt_inv (f:=i_copyLists_b0 g.Arena.Next) (fun j s=>s=g.Arena.Next.take j) g.Arena.Next.length (s:=[]) rfl (fun j s hj hs=>by
  subst hs
  have hx:g.Arena.Next[j]? =some g.Arena.Next[j]:=by simp[hj]
  have:=h5 j _ hx
  unfold i_copyLists_b0
  rw[idx_nat,hx,Option.bind_some,appL (by rw[List.length_nil];omega) rfl,Option.bind_some,app1 (by rw[List.length_take];omega) rfl]
  refine⟨_,rfl,?_⟩
  rw[List.take_add_one,hx];rfl)
 rw[e1,e2,List.take_length,Option.bind_some,aft_inr,Option.bind_some,Option.bind_some,appL (by rw[List.length_nil];omega) rfl]
 rfl
theorem parity_get {g:Parity}(h:parityOk g=true):(∀o∈g.Arena.Owner,inR 2 o=true)∧(∀x∈g.Prio,inR 41 x=true):=by
 have h':=parityOk_spec h
 simp only[parityOk,arenaOk,Bool.and_eq_true,decide_eq_true_eq,beq_iff_eq]at h
 obtain⟨⟨⟨⟨⟨h1,h2⟩,h3⟩,h4⟩,h5⟩,h6⟩:=h
 rw[List.all_eq_true]at h4 h6
 refine⟨fun o ho=>?_,h6⟩
 obtain⟨i,hi⟩:=List.mem_iff_getElem?.1 ho
 have hlt:=(List.getElem?_eq_some_iff.1 hi).1
 have hr:g.Arena.Next[i]? =some (g.Arena.Next[i]'(by omega)):=List.getElem?_eq_getElem (by omega)
 have:=h4 (_,i) (List.mem_zipIdx_iff_getElem?.2 hr)
 simp only[vertOk,hi,Bool.and_eq_true]at this
 exact this.1.1.1
theorem parity_mk {g:Parity}(h1:1≤g.Arena.Owner.length) (h2:g.Arena.Owner.length≤256) (h3:g.Arena.Next.length=g.Arena.Owner.length) (h4:g.Prio.length=g.Arena.Owner.length) (h5:∀row∈g.Arena.Next,1≤row.length∧row.length≤16∧setOk (g.Arena.Owner.length:Int) row=true) (h6:∀o∈g.Arena.Owner,inR 2 o=true) (h7:∀x∈g.Prio,inR 41 x=true):parityOk g=true:=by
 simp only[parityOk,arenaOk,Bool.and_eq_true,decide_eq_true_eq,beq_iff_eq]
 refine⟨⟨⟨⟨⟨by omega,by omega⟩,by omega⟩,?_⟩,by omega⟩,by rw[List.all_eq_true];exact h7⟩
 rw[List.all_eq_true]
 rintro⟨row,i⟩ hx
 have hx:=List.mem_zipIdx_iff_getElem?.1 hx
 dsimp only at hx ⊢
 have hlt:=(List.getElem?_eq_some_iff.1 hx).1
 obtain⟨k1,k2,k3⟩:=h5 row (List.mem_of_getElem? hx)
 have ho:g.Arena.Owner[i]? =some (g.Arena.Owner[i]'(by omega)):=List.getElem?_eq_getElem (by omega)
 have:=h6 _ (List.getElem_mem (show i<g.Arena.Owner.length by omega))
 unfold vertOk
 simp only[ho,this,k3,Bool.and_true,Bool.true_and,Bool.and_eq_true,decide_eq_true_eq]
 exact⟨by omega,by omega⟩
def editF (g:Parity) (e:Edit):Parity:=
 bif e.Kind==1 then⟨⟨g.Arena.Owner,g.Arena.Next⟩,g.Prio.set e.V.toNat e.N⟩
 else bif e.Kind==2 then⟨⟨g.Arena.Owner.set e.V.toNat e.N,g.Arena.Next⟩,g.Prio⟩
 else⟨⟨g.Arena.Owner,g.Arena.Next.set e.V.toNat (bif e.Kind==3 then ins e.N (g.Arena.Next.getD e.V.toNat []) else(g.Arena.Next.getD e.V.toNat []).filter fun x=>x !=e.N)⟩,g.Prio⟩
theorem do_same3 {g:Parity}(hp:parityOk g=true){e:Edit}(he:editOk g e=true):∃r,s_l32Do g e=some r∧i_edited g e=some r∧parityOk r=true∧r.Arena.Owner.length=g.Arena.Owner.length∧r=editF g e:=by
 obtain⟨h1,h2,h3,h4,h5⟩:=parityOk_spec hp
 obtain⟨hO,hP⟩:=parity_get hp
 have h5':∀row∈g.Arena.Next,1≤row.length∧row.length≤16∧setOk (g.Arena.Owner.length:Int) row=true:=fun row hr=>by
  obtain⟨i,hi⟩:=List.mem_iff_getElem?.1 hr
  exact h5 i row hi
 have he':=he
 unfold editOk at he'
 rw[Bool.and_eq_true]at he'
 obtain⟨v0,v1⟩:=inR_iff.1 he'.1
 obtain⟨v,hv⟩:=ex_nat v0
 have hr:g.Arena.Next[v]? =some (g.Arena.Next[v]'(by omega)):=List.getElem?_eq_getElem (by omega)
 have hpv:g.Prio[v]? =some (g.Prio[v]'(by omega)):=List.getElem?_eq_getElem (by omega)
 have hov:g.Arena.Owner[v]? =some (g.Arena.Owner[v]'(by omega)):=List.getElem?_eq_getElem (by omega)
 have hk:=he'.2
 rw[hv,Int.toNat_natCast,hr]at hk
 have hrow:=h5 v _ hr
 generalize g.Arena.Next[v]'(by omega)=row at hr hk hrow
 obtain⟨r1,r2,r3⟩:=hrow
 obtain⟨r4,r5⟩:=setOk_iff.1 r3
 have hmem:∀z,hasI row z=decide (z∈row):=fun z=>by
  unfold hasI
  rw[Bool.eq_iff_iff]
  simp only[List.any_eq_true,beq_iff_eq,decide_eq_true_eq]
  exact⟨fun⟨x,hx,e⟩=>e ▸ hx,fun h=>⟨z,h,rfl⟩⟩
 simp only[editRow]at hk
 unfold s_l32Do i_edited
 rw[s_l4Copy_eq hp,i_copyParity_eq hp,Option.bind_some,Option.bind_some,hv]
 cases k1:e.Kind==1 with
 | true=>
  rw[k1]at hk
  have hk:inR 41 e.N=true:=hk
  simp only[cond_true,idx_nat,hpv,Option.bind_some,setI_nat (xs:=g.Prio) (x:=e.N) (i:=v) (by omega)]
  refine⟨_,rfl,rfl,parity_mk h1 h2 h3 (by dsimp only;rw[List.length_set];exact h4) h5' hO fun x hx=>?_,rfl,by unfold editF;rw[k1,hv,Int.toNat_natCast];rfl⟩
  rcases List.mem_or_eq_of_mem_set hx with hx | rfl
  · exact hP x hx
  · exact hk
 | false=>
  cases k2:e.Kind==2 with
  | true=>
   rw[k1,k2]at hk
   have hk:inR 2 e.N=true:=hk
   simp only[cond_true,cond_false,idx_nat,hov,Option.bind_some,setI_nat (xs:=g.Arena.Owner) (x:=e.N) (i:=v) (by omega)]
   refine⟨_,rfl,rfl,parity_mk (by dsimp only;rw[List.length_set];exact h1) (by dsimp only;rw[List.length_set];exact h2) (by dsimp only;rw[List.length_set];exact h3) (by dsimp only;rw[List.length_set];exact h4) (by dsimp only;rw[List.length_set];exact h5') (fun x hx=>?_) hP,by dsimp only;rw[List.length_set],by unfold editF;rw[k1,k2,hv,Int.toNat_natCast];rfl⟩
   rcases List.mem_or_eq_of_mem_set hx with hx | rfl
   · exact hO x hx
   · exact hk
  | false=>
   -- a new row
   have hnew:∀row':List Int,1≤row'.length→row'.length≤16→setOk (g.Arena.Owner.length:Int) row'=true→parityOk ⟨⟨g.Arena.Owner,g.Arena.Next.set v row'⟩,g.Prio⟩=true:=fun row' q1 q2 q3=>by
    refine parity_mk h1 h2 (by dsimp only;rw[List.length_set];exact h3) h4 (fun x hx=>?_) hO hP
    rcases List.mem_or_eq_of_mem_set hx with hx | rfl
    · exact h5' x hx
    · exact⟨q1,q2,q3⟩
   cases k3:e.Kind==3 with
   | true=>
    rw[k1,k2,k3]at hk
    have hk:(inR (g.Arena.Owner.length:Int) e.N && !(hasI row e.N)&&decide ((row.length:Int)<16))=true:=hk
    rw[hmem]at hk
    simp only[Bool.and_eq_true,Bool.not_eq_true',decide_eq_false_iff_not,decide_eq_true_eq]at hk
    obtain⟨⟨n0,n1⟩,n2⟩:=hk
    simp only[cond_true,cond_false,idx_nat,hr,Option.bind_some,into_eq r5 n1 (by omega),bothOf_eq r5 n1 (by omega),setI_nat (xs:=g.Arena.Next) (x:=ins e.N row) (i:=v) (by omega)]
    refine⟨_,rfl,rfl,hnew _ ?_ ?_ (setOk_iff.2 ⟨fun x hx=>?_,ins_asc r5⟩),rfl,by unfold editF;rw[k1,k2,k3,hv,Int.toNat_natCast,List.getD_eq_getElem?_getD,hr];rfl⟩
    · rw[ins_length n1 r5];omega
    · rw[ins_length n1 r5];omega
    · rcases(ins_mem n1 x).1 hx with rfl | hx
      · exact inR_iff.1 n0
      · exact r4 x hx
   | false=>
    cases k4:e.Kind==4 with
    | false=>rw[k1,k2,k3,k4]at hk;cases hk
    | true=>
     rw[k1,k2,k3,k4]at hk
     have hk:(hasI row e.N&&decide (1<(row.length:Int)))=true:=hk
     rw[hmem]at hk
     simp only[Bool.and_eq_true,decide_eq_true_eq]at hk
     obtain⟨n0,n1⟩:=hk
     have hfl:(row.filter fun x=> !decide (x∈[e.N]))=row.filter fun x=>x !=e.N:=by
      congr 1
      funext x
      rw[Bool.eq_iff_iff]
      simp
     obtain⟨o,w1,w2⟩:=while_out (f:=s_l32Do_b1 g e) (fun j (s:List Int×Int)=>s.2=(j:Int)∧j≤row.length∧s.1=(row.take j).filter fun x=>x !=e.N) (fun _=>False) (fun s=>s.1=row.filter fun x=>x !=e.N) row.length (fun j s ⟨z1,z2,z3⟩=>by
      obtain⟨acc,i⟩:=s
      dsimp only at z1 z2 z3
      subst z1 z3
      unfold s_l32Do_b1
      dsimp only
      rw[hv,idx_nat,hr,Option.bind_some]
      by_cases hlt:(j:Int)<(row.length:Int)
      · have hxj:row[j]? =some (row[j]'(by omega)):=List.getElem?_eq_getElem (by omega)
        have hlen:((row.take j).filter fun x=>x !=e.N).length≤100000:=Nat.le_trans (List.length_filter_le ..) (by rw[List.length_take];omega)
        generalize row[j]'(by omega)=x at hxj
        simp only[hlt,decide_true,cond_true,Option.bind_some,idx_nat,hxj]
        have hw:IntKind.i64.wrap ((j:Int)+1)=((j+1:Nat):Int):=by rw[wr' (by omega) (by omega)];omega
        rw[hw]
        cases hx:(x !=e.N) with
        | true=>
         simp only[cond_true]
         rw[app1 (by omega) rfl]
         refine⟨_,rfl,by omega,rfl,by omega,?_⟩
         rw[List.take_add_one,hxj,List.filter_append]
         simp[hx]
        | false=>
         refine⟨_,rfl,by omega,rfl,by omega,?_⟩
         rw[List.take_add_one,hxj,List.filter_append]
         simp[hx]
      · simp only[hlt,decide_false,cond_false]
        refine⟨_,rfl,?_⟩
        dsimp only
        rw[List.take_of_length_le (by omega)])
      (2 ^ 64) 0 ([],0) (by omega) ⟨rfl,by omega,rfl⟩ (by omega)
     match o,w2 with
     | .inr s,w2=>
      simp only[cond_true,cond_false,idx_nat,hr,Option.bind_some,w1,aft_inr,w2,lessOf_eq (xs:=row) (ys:=[e.N]) (by simp) (by simp) (by omega),hfl,setI_nat (xs:=g.Arena.Next) (x:=row.filter fun x=>x !=e.N) (i:=v) (by omega)]
      refine⟨_,rfl,rfl,hnew _ ?_ ?_ (setOk_iff.2 ⟨fun x hx=>r4 x (List.mem_filter.1 hx).1,r5.filter _⟩),rfl,by unfold editF;rw[k1,k2,k3,hv,Int.toNat_natCast,List.getD_eq_getElem?_getD,hr];rfl⟩
      · -- one that differs is left
        have:∃x∈row,x≠e.N:=by
         apply Classical.byContradiction
         intro hno
         have hall:∀x∈row,x=e.N:=fun x hx=>Classical.byContradiction fun h=>hno ⟨x,hx,h⟩
         have a0:row[0]? =some (row[0]'(by omega)):=List.getElem?_eq_getElem (by omega)
         have a1:row[1]? =some (row[1]'(by omega)):=List.getElem?_eq_getElem (by omega)
         have:=asc_get r5 a0 a1 (by omega)
         have b0:=hall _ (List.mem_of_getElem? a0)
         have b1:=hall _ (List.mem_of_getElem? a1)
         omega
        obtain⟨x,hx,hne⟩:=this
        exact List.length_pos_of_mem (List.mem_filter.2 ⟨hx,by simp[hne]⟩)
      · exact Nat.le_trans (List.length_filter_le ..) (by omega)
end Go.Proofs.YtmiilifclnanlaaGreat
