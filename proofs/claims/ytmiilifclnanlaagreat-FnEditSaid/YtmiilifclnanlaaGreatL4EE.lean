/- From where one comes to a goal: the law. -/
import Derived.Test.YtmiilifclnanlaaGreatL3EE
import Derived.Test.YtmiilifclnanlaaGreatL2EE
import Derived.Test.YtmiilifclnanlaaGreatL1EE
import Derived.Test.YtmiilifclnanlaaGreatL0EE
set_option linter.unusedVariables false
set_option linter.unusedSimpArgs false
namespace Go.Proofs.YtmiilifclnanlaaGreat
open Go Go.Wk Go.Proofs
section
variable {a:Arena}{n:Nat}(hN:Rows n a.Next) (hn:n≤256){P:List (List Int)}(hP:Preds n a.Next P)
include hN hn hP
def Bfs (n:Nat) (N P:List (List Int)) (goal:List Bool) (v:Option Int) (s:List Int×List Bool):Prop:=
 Way N goal s.2∧(∀x∈s.1,0≤x∧x<n∧bAt s.2 x=true)∧(∀(u:Nat) row,P[u]? =some row→bAt s.2 u=true→(u:Int)∈s.1∨some (u:Int)=v∨∀x∈row,bAt s.2 x=true)
omit hn in
theorem pred_rng {u:Nat}{row:List Int}(h:P[u]? =some row){x:Int}(hx:x∈row):0≤x∧x<n:=by
 obtain⟨v,r,rfl,hv,_⟩:=((hP.mem u row h).2 x).1 hx
 have:=(List.getElem?_eq_some_iff.1 hv).1
 rw[hN.len]at this
 omega
theorem i_visitB {goal:List Bool}(hg:goal.length=n){v:Nat}{row:List Int}(hv:P[v]? =some row){q:List Int}{out:List Bool}(hI:Bfs n a.Next P goal (some (v:Int)) (q,out)) (hov:bAt out v=true) (hql:q.length+2 * falses out≤3 * n):
 ∃q' out',cntM (i_leadTo_b2 row) row.length 0 (q,out)=some (.inr (q',out'))∧Bfs n a.Next P goal none (q',out')∧q'.length+2 * falses out'≤q.length+2 * falses out:=by
 obtain⟨s,h1,h2,h3,h4⟩:=cnt_inv (f:=i_leadTo_b2 row) (fun j (s:List Int×List Bool)=>Bfs n a.Next P goal (some (v:Int)) s∧s.1.length+2 * falses s.2≤q.length+2 * falses out∧bAt s.2 v=true∧∀x∈row.take j,bAt s.2 x=true) row.length (s:=(q,out)) ⟨hI,Nat.le_refl _,hov,fun x hx=>by simp at hx⟩ (fun j s hj ⟨⟨hW,hq,hc⟩,hm,hv',ht⟩=>by
  have e1:row[j]? =some row[j]:=List.getElem?_eq_getElem hj
  generalize row[j]=x at e1
  have hxm:=List.mem_of_getElem? e1
  obtain⟨x0,x1⟩:=pred_rng hN hP hv hxm
  have hl:s.2.length=n:=by rw[hW.len,hg]
  have htk:row.take (j+1)=row.take j++[x]:=by rw[List.take_add_one,e1];rfl
  unfold i_leadTo_b2
  rw[idx_nat,e1,Option.bind_some,bAt_get x0 (by omega),Option.bind_some]
  cases hox:bAt s.2 x with
  | true=>
   simp only[Bool.not_true,cond_false,Option.bind_some]
   refine⟨_,rfl,⟨hW,hq,hc⟩,hm,hv',fun y hy=>?_⟩
   rw[htk,List.mem_append,List.mem_singleton]at hy
   rcases hy with hy | rfl
   · exact ht y hy
   · exact hox
  | false=>
   obtain⟨u,hu⟩:=ex_nat x0
   subst hu
   have hf:s.2[u]? =some false:=by
    have:=bAt_get (B:=s.2) x0 (by omega)
    rw[idx_nat,hox]at this
    exact this
   have hfs:=falses_set hf
   simp only[Bool.not_false,cond_true,Option.bind_some]
   rw[setI_nat (by omega),Option.bind_some,app1 (by omega) rfl,Option.bind_some,Option.bind_some]
   have hmono:∀y:Int,0≤y→bAt s.2 y=true→bAt (s.2.set u true) y=true:=fun y y0 hy=>by rw[bAt_set (by omega) _ y0,hy];rfl
   obtain⟨w,r,hw1,hw2,hw3⟩:=((hP.mem v row hv).2 u).1 hxm
   have huw:u=w:=by omega
   subst huw
   have hany:anyOut s.2 r=true:=by
    unfold anyOut
    rw[List.any_eq_true]
    exact⟨v,hw3,hv'⟩
   refine⟨_,rfl,⟨hW.set hN hg hw2 hany,fun y hy=>?_,fun z rz hz hoz=>?_⟩,?_,hmono v (by omega) hv',fun y hy=>?_⟩
   · dsimp only at hy ⊢
     rw[List.mem_append,List.mem_singleton]at hy
     rcases hy with hy | rfl
     · obtain⟨y0,y1,y2⟩:=hq y hy
       exact⟨y0,y1,hmono y y0 y2⟩
     · exact⟨x0,x1,by rw[bAt_set (by omega) _ x0];simp⟩
   · dsimp only at hoz ⊢
     rw[bAt_set (by omega) _ (by omega),Bool.or_eq_true]at hoz
     rcases hoz with hoz | hoz
     · rcases hc z rz hz hoz with h | h | h
       · exact .inl (List.mem_append_left _ h)
       · exact .inr (.inl h)
       · exact .inr (.inr fun y hy=>hmono y (pred_rng hN hP hz hy).1 (h y hy))
     · have:=of_decide_eq_true hoz
       exact .inl (by rw[this];simp)
   · dsimp only
     rw[List.length_append]
     simp only[List.length_cons,List.length_nil]
     omega
   · dsimp only
     rw[htk,List.mem_append,List.mem_singleton]at hy
     rcases hy with hy | rfl
     · exact hmono y (pred_rng hN hP hv (List.mem_of_mem_take hy)).1 (ht y hy)
     · rw[bAt_set (by omega) _ x0];simp)
 obtain⟨hW,hq,hc⟩:=h2
 refine⟨s.1,s.2,h1,⟨hW,hq,fun u r hu hou=>?_⟩,h3⟩
 rcases hc u r hu hou with h | h | h
 · exact .inl h
 · have huv:u=v:=by have:=Option.some.inj h;omega
   subst huv
   rw[hv]at hu
   cases hu
   refine .inr (.inr fun x hx=>?_)
   have:=h4.2 x (by rw[List.take_length];exact hx)
   exact this
 · exact .inr (.inr h)
theorem i_leadTo_eq (hp:i_predsOf a=some P){goal:List Bool}(hg:goal.length=n):∃B,i_leadTo a goal=some B∧LeastB a.Next goal B:=by
 obtain⟨L,k1,_,k3,k4⟩:=listOf_eqI goal (by omega)
 unfold i_leadTo
 rw[hp,Option.bind_some,appL (by rw[List.length_nil];omega) rfl,Option.bind_some,k1,Option.bind_some,List.nil_append]
 have hfl:=falses_le goal
 obtain⟨o,h1,h2⟩:=while_out (f:=i_leadTo_b0 P) (fun j (s:List Int×List Bool)=>Bfs n a.Next P goal none s∧j+(s.1.length+2 * falses s.2)≤3 * n) (fun _=>False) (fun s=>LeastB a.Next goal s.2) (3 * n) (fun j s ⟨⟨hW,hq,hc⟩,hm⟩=>by
  unfold i_leadTo_b0
  obtain⟨q,out⟩:=s
  dsimp only at hW hq hc hm ⊢
  cases q with
  | nil=>
   simp only[List.length_nil,Int.natCast_zero,Int.lt_irrefl,decide_false,cond_false]
   refine⟨_,rfl,hW.len,hW.sub,fun v row u hv hu hou=>?_,hW.least⟩
   obtain⟨u0,u1⟩:=(hN.rng v row hv).2 u hu
   obtain⟨w,hw⟩:=ex_nat u0
   subst hw
   have e1:P[w]? =some (P[w]'(by rw[hP.len];omega)):=List.getElem?_eq_getElem (by rw[hP.len];omega)
   generalize P[w]'(by rw[hP.len];omega)=r at e1
   rcases hc w r e1 hou with h | h | h
   · cases h
   · cases h
   · exact h v (((hP.mem w r e1).2 v).2 ⟨v,row,rfl,hv,hu⟩)
  | cons x q=>
   have hlt:(0:Int)<((x::q).length:Int):=by simp only[List.length_cons];omega
   obtain⟨x0,x1,x2⟩:=hq x (List.mem_cons_self ..)
   obtain⟨v,hv⟩:=ex_nat x0
   subst hv
   have e1:P[v]? =some (P[v]'(by rw[hP.len];omega)):=List.getElem?_eq_getElem (by rw[hP.len];omega)
   generalize P[v]'(by rw[hP.len];omega)=row at e1
   have e2:idx ((v:Int)::q) 0=some (v:Int):=rfl
   have e3:subS ((v:Int)::q) 1 (((v:Int)::q).length:Int)=some q:=by
    unfold subS
    rw[if_pos ⟨by omega,by simp only[List.length_cons];omega,by omega⟩,Int.toNat_natCast,List.take_length]
    rfl
   simp only[List.length_cons]at hm
   obtain⟨q',out',w1,w2,w3⟩:=i_visitB hN hn hP hg e1 (q:=q) (out:=out) ⟨hW,fun y hy=>hq y (List.mem_cons_of_mem _ hy),fun u r hu hou=>by
    rcases hc u r hu hou with h | h | h
    · rcases List.mem_cons.1 h with h | h
      · exact .inr (.inl (by rw[h]))
      · exact .inl h
    · cases h
    · exact .inr (.inr h)⟩ x2 (by omega)
   simp only[hlt,decide_true,cond_true,e2,e3,Option.bind_some,idx_nat,e1,w1,aft_inr]
   exact⟨_,rfl,by omega,w2,by dsimp only;omega⟩) (2 ^ 64) 0 (L,goal) (by omega) ⟨⟨⟨rfl,fun _ h=>h,fun C _ hs _=>hs⟩,fun x hx=>by
    obtain⟨v,rfl,hv⟩:=(k4 x).1 hx
    have hlt:=(List.getElem?_eq_some_iff.1 hv).1
    have:=bAt_get (B:=goal) (v:=(v:Int)) (by omega) (by omega)
    rw[idx_nat,hv]at this
    exact⟨by omega,by omega,(Option.some.inj this).symm⟩,fun u row hu hou=> .inl ((k4 u).2 ⟨u,rfl,by
    have hlt:=(List.getElem?_eq_some_iff.1 hu).1
    have:=bAt_get (B:=goal) (v:=(u:Int)) (by omega) (by rw[hP.len]at hlt;omega)
    rw[idx_nat,hou]at this
    exact this⟩)⟩,by dsimp only;omega⟩ (by omega)
 match o,h2 with
 | .inr s,h2=>rw[h1];exact⟨s.2,rfl,h2⟩
end
end Go.Proofs.YtmiilifclnanlaaGreat
set_option linter.unusedVariables false
set_option linter.unusedSimpArgs false
namespace Go.Proofs.YtmiilifclnanlaaGreat
open Go Go.Wk Go.Proofs
open Classical
theorem i_noPlan_eq {g:Parity}{n:Nat}(h:GOk g n):i_noPlan g.Arena=some (List.replicate n (-1)):=by
 have hn:=h.n256
 unfold i_noPlan
 rw[h.lo,mkS_nat (by omega) rfl,Option.bind_some,List.length_replicate]
 obtain⟨s,h1,h2,h3⟩:=fill (f:=i_noPlan_b0) (fun _=> -1) n (s0:=List.replicate n 0) (by simp) (fun j s hj hs=>rfl)
 rw[h1,Option.bind_some,aft_inr]
 congr 1
 apply List.ext_getElem?
 intro i
 rw[List.getElem?_replicate]
 by_cases hi:i<n
 · rw[if_pos hi,← idx_nat];exact h3 i hi
 · rw[if_neg hi];exact List.getElem?_eq_none (by omega)
theorem s_l7None_eq {n:Nat}(hn:n≤256):s_l7None (n:Int)=some (List.replicate n (-1)):=by
 unfold s_l7None
 have hr:rng (n:Int)=some ():=by
  unfold rng
  first
   | rfl
   | rw[if_pos (by omega)]
 rw[hr,Option.bind_some,show Int.toNat ((n:Int)-0)=n from by omega]
 obtain⟨s,h1,h2⟩:=cnt_inv (f:=s_l7None_b0) (fun j (s:List Int)=>s=List.replicate j (-1)) n (s:=[]) rfl (fun j s hj hs=>by
  subst hs
  unfold s_l7None_b0
  rw[app1 (by simp;omega) rfl,Option.bind_some]
  exact⟨_,rfl,by rw[List.replicate_succ']⟩)
 rw[h1,Option.bind_some,aft_inr,h2]
structure Solv (g:Parity) (W:Int→Prop) (k:List Int):Prop where
 sol:Par.Sol (gI g) (Xn g.Prio.length) false W
 len:k.length=g.Prio.length
 pick:∀v x,idx k v=some x→x= -1∨0≤x
 ans:Par.Ans (gI g) (Xn g.Prio.length) (wB W) (pkL k)
theorem Solved_same {g:Parity}(hp:parityOk g=true):∃W k,s_Solved g=some ⟨wonL g.Prio.length W,k⟩∧i_Solved g=some ⟨wonL g.Prio.length W,k⟩∧s_l7Won g=some (wonL g.Prio.length W)∧i_winners g=some (wonL g.Prio.length W)∧Solv g W k:=by
 have h:=GOk.of hp
 obtain⟨W,a1,a2,a3⟩:=won_same h (rows_some hp)
 obtain⟨k,k1,k2,k3,k4,k5⟩:=solve_same hp rfl a3 a1
 refine⟨W,k,?_,?_,a1,a2,a3,k3,k4,k5⟩
 · unfold s_Solved
   rw[s_ParityOk_eq,hp,Option.bind_some,Bool.not_true,cond_false,s_l7None_eq h.n256,Option.bind_some,k1];rfl
 · unfold i_Solved
   rw[i_ParityOk_eq,hp,Option.bind_some,Bool.not_true,cond_false,i_noPlan_eq h,Option.bind_some,a2,Option.bind_some,k2];rfl
theorem touched_same {g:Parity}(hp:parityOk g=true){e:Edit}(he:editOk g e=true):∃M A,s_l32Touched g e=some A∧i_markOf g.Arena [e.V]=some M∧i_leadTo g.Arena M=some A∧A.length=g.Prio.length∧Xn g.Prio.length e.V∧bAt A e.V=true∧∀v u,(gI g).E v u→bAt A u=true→bAt A v=true:=by
 obtain⟨h1,h2,h3,h4,h5⟩:=parityOk_spec hp
 have hN:=Rows.of hp
 have he':=he
 unfold editOk at he'
 rw[Bool.and_eq_true]at he'
 obtain⟨v0,v1⟩:=inR_iff.1 he'.1
 obtain⟨v,hv⟩:=ex_nat v0
 have hlen:((List.replicate g.Arena.Owner.length false).set v true).length=g.Arena.Owner.length:=by simp
 obtain⟨P,p1,p2⟩:=i_preds (a:=g.Arena) hN (by omega) rfl
 obtain⟨A,a1,a2⟩:=s_before (a:=g.Arena) hN (by omega) hlen
 obtain⟨B,b1,b2⟩:=i_leadTo_eq (a:=g.Arena) hN (by omega) p2 p1 hlen
 have hAB:=a2.uniq b2
 subst hAB
 have hmark:i_markOf g.Arena [e.V]=some ((List.replicate g.Arena.Owner.length false).set v true):=by
  unfold i_markOf
  rw[mkS_nat (by omega) rfl,Option.bind_some]
  show Option.bind (Option.bind (i_markOf_b0 [e.V] 0 _) _) _=_
  unfold i_markOf_b0
  have e0:idx [e.V] 0=some e.V:=rfl
  have e1:idx (List.replicate g.Arena.Owner.length false) (v:Int)=some false:=by
   rw[idx_nat,List.getElem?_replicate,if_pos (by omega)]
  rw[e0,Option.bind_some,hv,e1,Option.bind_some,setI_nat (by simp;omega),Option.bind_some]
  rfl
 have htouch:s_l32Touched g e=some A:=by
  unfold s_l32Touched
  have e1:idx (List.replicate g.Arena.Owner.length false) (v:Int)=some false:=by
   rw[idx_nat,List.getElem?_replicate,if_pos (by omega)]
  rw[h4,mkS_nat (by omega) rfl,Option.bind_some,hv,e1,Option.bind_some,setI_nat (by simp;omega),Option.bind_some,a1]
  rfl
 refine⟨_,A,htouch,hmark,b1,by rw[a2.len,hlen];omega,⟨by omega,by omega⟩,?_,fun x u hE hu=>?_⟩
 · rw[hv]
   refine a2.sub v ?_
   rw[bAt_set (by simp;omega) _ (by omega)]
   simp
 · have hE':u∈rowI g.Arena x:=hE
   cases hr:idx g.Arena.Next x with
   | none=>rw[rowI_none hr]at hE';cases hE'
   | some row=>
    rw[rowI_eq hr]at hE'
    obtain⟨i,hi⟩:=ex_nat (idx_rng hr).1
    subst hi
    rw[idx_nat]at hr
    exact a2.closed i row u hr hE' hu
theorem beside {g:Parity}{e:Edit}{v:Int}(hv:v≠e.V) (h0:0≤v) (he:0≤e.V):idx (editF g e).Arena.Owner v=idx g.Arena.Owner v∧idx (editF g e).Arena.Next v=idx g.Arena.Next v∧idx (editF g e).Prio v=idx g.Prio v:=by
 have hne:e.V.toNat≠v.toNat:=by omega
 have hs:∀{α:Type} (xs:List α) (x:α),idx (xs.set e.V.toNat x) v=idx xs v:=fun xs x=>by
  rw[idx_int h0,idx_int h0,List.getElem?_set,if_neg hne]
 unfold editF
 cases e.Kind==1 with
 | true=>exact⟨rfl,rfl,hs _ _⟩
 | false=>
  cases e.Kind==2 with
  | true=>exact⟨hs _ _,rfl,rfl⟩
  | false=>exact⟨rfl,hs _ _,rfl⟩
theorem besideG {g:Parity}{e:Edit}{v:Int}(hv:v≠e.V) (he:0≤e.V) (h0:0≤v):(gI (editF g e)).own v=(gI g).own v∧(gI (editF g e)).pri v=(gI g).pri v∧∀u,(gI (editF g e)).E v u↔(gI g).E v u:=by
 obtain⟨h1,h2,h3⟩:=beside (g:=g) hv h0 he
 refine⟨?_,?_,fun u=>?_⟩
 · show ownL _ v=ownL _ v
   unfold ownL;rw[h1]
 · show priL _ v=priL _ v
   unfold priL;rw[h3]
 · show u∈rowI _ v↔u∈rowI _ v
   unfold rowI;rw[h2]
noncomputable def mixL (A:List Bool) (old new:List Int):List Int:=(List.range A.length).map fun(v:Nat)=>if bAt A (v:Int)=true then(idx new (v:Int)).getD 0 else(idx old (v:Int)).getD 0
theorem mixL_len {A:List Bool}{old new:List Int}:(mixL A old new).length=A.length:=by unfold mixL;rw[List.length_map,List.length_range]
theorem mixL_get {A:List Bool}{old new:List Int}{n:Nat}(hA:A.length=n) (ho:old.length=n) (hw:new.length=n){v:Int}(hv:Xn n v):idx (mixL A old new) v=if bAt A v=true then idx new v else idx old v:=by
 obtain⟨i,hi⟩:=ex_nat hv.1
 subst hi
 have hi:i<n:=by have:=hv.2;omega
 rw[idx_nat]
 unfold mixL
 rw[List.getElem?_map,List.getElem?_range (by omega)]
 obtain⟨x,hx⟩:=idx_some (xs:=old) (i:=(i:Int)) (by omega) (by omega)
 obtain⟨y,hy⟩:=idx_some (xs:=new) (i:=(i:Int)) (by omega) (by omega)
 rw[hx,hy]
 by_cases c:bAt A (i:Int)=true
 · simp[c,hy]
 · simp[c,hx]
theorem mix_same {A:List Bool}{n:Nat}{old new:Answer}(hA:A.length=n) (hn:n≤256) (h1:old.Won.length=n) (h2:old.Plan.length=n) (h3:new.Won.length=n) (h4:new.Plan.length=n):
 cntM (s_ResolvedBy_b0 old A new) A.length 0 ([],[])=some (.inr (mixL A old.Won new.Won,mixL A old.Plan new.Plan))∧cntM (i_ResolvedBy_b0 old A) A.length 0 (new.Won,new.Plan)=some (.inr (mixL A old.Won new.Won,mixL A old.Plan new.Plan)):=by
 have hg:∀{L:List Int},L.length=n→∀j:Nat,j<n→∃x,L[j]? =some x:=fun hL j hj=>⟨_,List.getElem?_eq_getElem (by omega)⟩
 have hmw:∀(o w:List Int),o.length=n→w.length=n→∀j:Nat,j<n→(mixL A o w)[j]? =if bAt A (j:Int)=true then w[j]? else o[j]?:=fun o w ho hw j hj=>by
  have:=mixL_get hA ho hw (v:=(j:Int)) ⟨by omega,by omega⟩
  rw[idx_nat,idx_nat,idx_nat]at this
  exact this
 constructor
 · obtain⟨s,e1,e2,e3⟩:=cnt_inv (f:=s_ResolvedBy_b0 old A new) (fun j (s:List Int×List Int)=>s.1=(mixL A old.Won new.Won).take j∧s.2=(mixL A old.Plan new.Plan).take j) A.length (s:=([],[])) ⟨rfl,rfl⟩ (fun j s hj ⟨q1,q2⟩=>by
    obtain⟨s,t⟩:=s
    dsimp only at q1 q2
    subst q1 q2
    obtain⟨a,ha⟩:=hg h1 j (by omega)
    obtain⟨b,hb⟩:=hg h2 j (by omega)
    obtain⟨c,hc⟩:=hg h3 j (by omega)
    obtain⟨d,hd⟩:=hg h4 j (by omega)
    have m1:=hmw old.Won new.Won h1 h3 j (by omega)
    have m2:=hmw old.Plan new.Plan h2 h4 j (by omega)
    have l1:((mixL A old.Won new.Won).take j).length≤10000000000:=by rw[List.length_take];omega
    have l2:((mixL A old.Plan new.Plan).take j).length≤10000000000:=by rw[List.length_take];omega
    unfold s_ResolvedBy_b0
    dsimp only
    rw[bAt_get (B:=A) (by omega) (by omega),Option.bind_some,idx_nat,idx_nat,idx_nat,idx_nat,ha,hb,hc,hd]
    simp only[Option.bind_some,app1 l1 (show Nat.ble 8 1024=true from rfl),app1 l2 (show Nat.ble 8 1024=true from rfl)]
    rw[List.take_add_one,List.take_add_one,m1,m2,ha,hb,hc,hd]
    cases bAt A (j:Int) <;> exact⟨_,rfl,rfl,rfl⟩)
   rw[e1]
   rw[List.take_of_length_le (Nat.le_of_eq mixL_len)]at e2 e3
   rw[← e2,← e3]
 · obtain⟨s,e1,e2,e3,e4⟩:=cnt_inv (f:=i_ResolvedBy_b0 old A) (fun j (s:List Int×List Int)=>s.1.length=n∧s.2.length=n∧∀i:Nat,i<n→s.1[i]? =(if i<j then(mixL A old.Won new.Won)[i]? else new.Won[i]?)∧s.2[i]? =(if i<j then(mixL A old.Plan new.Plan)[i]? else new.Plan[i]?)) A.length (s:=(new.Won,new.Plan)) ⟨h3,h4,fun i hi=>by simp⟩ (fun j s hj ⟨q1,q2,q3⟩=>by
    obtain⟨s,t⟩:=s
    dsimp only at q1 q2 q3
    obtain⟨a,ha⟩:=hg h1 j (by omega)
    obtain⟨b,hb⟩:=hg h2 j (by omega)
    have m1:=hmw old.Won new.Won h1 h3 j (by omega)
    have m2:=hmw old.Plan new.Plan h2 h4 j (by omega)
    obtain⟨z1,hz1⟩:=hg q1 j (by omega)
    obtain⟨z2,hz2⟩:=hg q2 j (by omega)
    unfold i_ResolvedBy_b0
    dsimp only
    rw[bAt_get (B:=A) (by omega) (by omega),Option.bind_some,idx_nat,idx_nat,idx_nat,idx_nat,ha,hb,hz1,hz2]
    simp only[Option.bind_some,setI_nat (xs:=s) (i:=j) (x:=a) (by omega),setI_nat (xs:=t) (i:=j) (x:=b) (by omega)]
    cases hc:bAt A (j:Int) with
    | true=>
     rw[hc,if_pos rfl]at m1 m2
     refine⟨_,rfl,q1,q2,fun i hi=>?_⟩
     obtain⟨r1,r2⟩:=q3 i hi
     by_cases c1:i<j
     · rw[if_pos c1]at r1 r2
       rw[if_pos (by omega),if_pos (by omega)];exact⟨r1,r2⟩
     · rw[if_neg c1]at r1 r2
       by_cases c2:i=j
       · subst c2
         rw[if_pos (by omega),if_pos (by omega),m1,m2];exact⟨r1,r2⟩
       · rw[if_neg (by omega),if_neg (by omega)];exact⟨r1,r2⟩
    | false=>
     rw[hc,if_neg (by simp)]at m1 m2
     refine⟨_,rfl,by simpa using q1,by simpa using q2,fun i hi=>?_⟩
     obtain⟨r1,r2⟩:=q3 i hi
     dsimp only
     rw[List.getElem?_set,List.getElem?_set]
     by_cases c2:j=i
     · subst c2
       rw[if_pos rfl,if_pos rfl,if_pos (by omega),if_pos (by omega),if_pos (by omega),if_pos (by omega),m1,m2,ha,hb]
       exact⟨rfl,rfl⟩
     · rw[if_neg c2,if_neg c2]
       by_cases c1:i<j
       · rw[if_pos c1]at r1 r2
         rw[if_pos (by omega),if_pos (by omega)];exact⟨r1,r2⟩
       · rw[if_neg c1]at r1 r2
         rw[if_neg (by omega),if_neg (by omega)];exact⟨r1,r2⟩)
   rw[e1]
   obtain⟨s,t⟩:=s
   dsimp only at e2 e3 e4
   have f1:s=mixL A old.Won new.Won:=by
    apply List.ext_getElem?
    intro i
    by_cases hi:i<n
    · rw[(e4 i hi).1,if_pos (by omega)]
    · rw[List.getElem?_eq_none (by omega),List.getElem?_eq_none (by rw[mixL_len];omega)]
   have f2:t=mixL A old.Plan new.Plan:=by
    apply List.ext_getElem?
    intro i
    by_cases hi:i<n
    · rw[(e4 i hi).2,if_pos (by omega)]
    · rw[List.getElem?_eq_none (by omega),List.getElem?_eq_none (by rw[mixL_len];omega)]
   rw[f1,f2]
theorem Resolved_ok {g:Parity}{old:Answer}{e:Edit}(hR:RightA g old) (he:editOk g e=true):∃A W k,s_ResolvedBy g old e=some (⟨mixL A old.Won (wonL g.Prio.length W),mixL A old.Plan k⟩,true)∧i_ResolvedBy g old e=some (⟨mixL A old.Won (wonL g.Prio.length W),mixL A old.Plan k⟩,true)∧A.length=g.Prio.length∧Xn g.Prio.length e.V∧bAt A e.V=true∧(∀v u,(gI g).E v u→bAt A u=true→bAt A v=true)∧parityOk (editF g e)=true∧(editF g e).Prio.length=g.Prio.length∧s_Solved (editF g e)=some ⟨wonL g.Prio.length W,k⟩∧Solv (editF g e) W k∧s_l32Do g e=some (editF g e)∧i_edited g e=some (editF g e):=by
 obtain⟨hp,W0,w1,w2,w3,w4⟩:=hR
 have h:=GOk.of hp
 obtain⟨M,A,t1,t2,t3,t4,t5,t6,t7⟩:=touched_same hp he
 obtain⟨r,d1,d2,d3,d4,d5⟩:=do_same3 hp he
 subst d5
 have hq:=GOk.of d3
 have hl:(editF g e).Prio.length=g.Prio.length:=by rw[← hq.lo,d4,h.lo]
 obtain⟨W,k,s1,s2,s3,s4,s5⟩:=Solved_same d3
 have hsl:=s5.len
 rw[hl]at s1 s2 hsl
 have hold:old.Won.length=g.Prio.length:=by rw[w1];exact wonL_len _ _
 obtain⟨m1,m2⟩:=mix_same (new:=⟨wonL g.Prio.length W,k⟩) t4 h.n256 hold w2 (wonL_len _ _) hsl
 obtain⟨b,b1,b2,b3⟩:=AnswerOk_same g old
 have hb:b=true:=b3.2 ⟨hp,W0,w1,w2,w3,w4⟩
 subst hb
 refine⟨A,W,k,?_,?_,t4,t5,t6,t7,d3,hl,s1,s5,d1,d2⟩
 · unfold s_ResolvedBy
   rw[s_EditOk_eq,hp,he,b1]
   simp only[Bool.and_self,Bool.not_true,cond_false,Option.bind_some,t1,d1,s1,m1,aft_inr]
 · unfold i_ResolvedBy
   rw[b2,i_isEdit_eq hp,he]
   simp only[Bool.not_true,cond_false,Option.bind_some,d2,s2,t2,t3,m2,aft_inr]
end Go.Proofs.YtmiilifclnanlaaGreat
set_option linter.unusedVariables false
set_option linter.unusedSimpArgs false
namespace Go.Proofs.YtmiilifclnanlaaGreat.Par
open Classical
theorem Dom.part {G:Gm}{X T D:Int→Prop}{q:Bool}(h:Dom G X q D) (hT:∀v u,X v→¬T v→G.E v u→X u→¬T u):Dom G (fun v=>X v∧¬T v) q (fun v=>D v∧¬T v):=by
 obtain⟨σ,a1,a2,a3,a4⟩:=h
 refine⟨σ,fun v hv=>⟨a1 v hv.1,hv.2⟩,fun v hv ho=>?_,fun v u hv ho he hx=>⟨a3 v u hv.1 ho he hx.1,hx.2⟩,fun π hπ=>a4 π fun n=>⟨(hπ n).1.1,(hπ n).2⟩⟩
 obtain⟨b1,b2⟩:=a2 v hv.1 ho
 exact⟨b1,b2,hT v _ (a1 v hv.1) hv.2 b1 (a1 _ b2)⟩
theorem part_same {G G0:Gm}{X T:Int→Prop}{w0 w1:Int→Bool}(h0:∀q,Dom G0 X q (Rg X w0 q)) (h1:∀q,Dom G X q (Rg X w1 q)) (hT:∀v u,X v→¬T v→G.E v u→X u→¬T u)
 (ho:∀v,X v→¬T v→G.own v=G0.own v) (hp:∀v,X v→¬T v→G.pri v=G0.pri v) (hE:∀v u,X v→¬T v→(G.E v u↔G0.E v u)) {v:Int} (hv:X v) (hn:¬T v):w0 v=w1 v:=by
 have hT0:∀v u,X v→¬T v→G0.E v u→X u→¬T u:=fun v u a b c d=>hT v u a b ((hE v u a b).2 c) d
 have a0:Dom G (fun v=>X v∧¬T v) (w0 v) (fun x=>Rg X w0 (w0 v) x∧¬T x):=((h0 (w0 v)).part hT0).congrG (fun x hx=>ho x hx.1.1 hx.2) (fun x hx=>hp x hx.1.1 hx.2) (fun x u hx=>hE x u hx.1.1 hx.2)
 by_cases e:w0 v=w1 v
 · exact e
 · exfalso
   have e':w1 v= !(w0 v):=by cases h:w0 v <;> cases h':w1 v <;> simp_all
   have a1:=(h1 (!(w0 v))).part hT
   exact Dom.disj a0 a1 (v:=v) ⟨⟨hv,rfl⟩,hn⟩ ⟨⟨hv,e'⟩,hn⟩
theorem Rch.stay {G:Gm}{X T Y:Int→Prop}{k:Int→Int}(hT:∀v u,X v→¬T v→G.E v u→X u→¬T u) (hY:∀x,Y x→X x){a b:Int}(h:Rch (pickG G k) Y a b):¬T a→¬T b:=by
 induction h with
 | refl _=>exact id
 | @step a c b h e w ih=>exact fun hn=>ih (hT a c (hY a h) hn e.1 (hY c w.fst))
theorem Rch.mixT {G:Gm}{X T Y:Int→Prop}{k0 k1:Int→Int}(hT:∀v u,X v→¬T v→G.E v u→X u→¬T u) (hY:∀x,Y x→X x){a b:Int}(h:Rch (pickG G (fun v=>if T v then k1 v else k0 v)) Y a b):T b→Rch (pickG G k1) Y a b:=by
 induction h with
 | refl h=>exact fun _=> .refl h
 | @step a c b h e w ih=>
  intro hb
  have hta:T a:=by
   by_cases h':T a
   · exact h'
   · exact absurd hb (Rch.stay hT hY (.step h e w) h')
  have e2:=e.2
  simp only[if_pos hta]at e2
  exact .step h ⟨e.1,e2⟩ (ih hb)
theorem Rch.mixN {G G0:Gm}{X T Y Y0:Int→Prop}{k0 k1:Int→Int}(hT:∀v u,X v→¬T v→G.E v u→X u→¬T u) (hE:∀v u,X v→¬T v→(G.E v u↔G0.E v u)) (hY:∀x,Y x→X x) (hYY:∀x,¬T x→Y x→Y0 x){a b:Int}(h:Rch (pickG G (fun v=>if T v then k1 v else k0 v)) Y a b):¬T a→Rch (pickG G0 k0) Y0 a b:=by
 induction h with
 | refl h=>exact fun hn=> .refl (hYY _ hn h)
 | @step a c b h e w ih=>
  intro hn
  have e2:=e.2
  simp only[if_neg hn]at e2
  exact .step (hYY a hn h) ⟨(hE a c (hY a h) hn).1 e.1,e2⟩ (ih (hT a c (hY a h) hn e.1 (hY c w.fst)))
theorem Ans.mix {G G0:Gm}{X T:Int→Prop}{w0 w1:Int→Bool}{k0 k1:Int→Int}(h0:Ans G0 X w0 k0) (h1:Ans G X w1 k1) (hT:∀v u,X v→¬T v→G.E v u→X u→¬T u)
 (ho:∀v,X v→¬T v→G.own v=G0.own v) (hp:∀v,X v→¬T v→G.pri v=G0.pri v) (hE:∀v u,X v→¬T v→(G.E v u↔G0.E v u)) (hw:∀v,X v→¬T v→w0 v=w1 v):Ans G X w1 (fun v=>if T v then k1 v else k0 v) where
 mine:=fun v hv hm=>by
  by_cases ht:T v
  · simp only[if_pos ht]
    exact h1.mine v hv hm
  · simp only[if_neg ht]
    obtain⟨a1,a2,a3,a4⟩:=h0.mine v hv (by rw[← ho v hv ht,hw v hv ht];exact hm)
    have hg:=(hE v _ hv ht).2 a2
    have hnt:=hT v _ hv ht hg a3
    exact⟨a1,hg,a3,by rw[← hw _ a3 hnt,a4,hw v hv ht]⟩
 free:=fun v hv hm=>by
  by_cases ht:T v
  · simp only[if_pos ht]
    exact h1.free v hv hm
  · simp only[if_neg ht]
    exact h0.free v hv (by rw[← ho v hv ht,hw v hv ht];exact hm)
 yours:=h1.yours
 noloop:=fun v hv hm hL=>by
  obtain⟨u,he,hr⟩:=hL
  have hYX:∀x,(Rg X w1 (w1 v) x∧G.pri x≤G.pri v)→X x:=fun x hx=>hx.1.1
  have e2:=he.2
  by_cases ht:T v
  · simp only[if_pos ht]at e2
    exact h1.noloop v hv hm ⟨u,⟨he.1,e2⟩,Rch.mixT hT hYX hr ht⟩
  · simp only[if_neg ht]at e2
    have hu:=hT v u hv ht he.1 (hYX u hr.fst)
    refine h0.noloop v hv (by rw[← hp v hv ht,hw v hv ht];exact hm) ⟨u,⟨(hE v u hv ht).1 he.1,e2⟩,Rch.mixN hT hE hYX (fun x hx hy=>⟨⟨hy.1.1,?_⟩,?_⟩) hr hu⟩
    · rw[hw x hy.1.1 hx,hw v hv ht];exact hy.1.2
    · rw[← hp x hy.1.1 hx,← hp v hv ht];exact hy.2
end Go.Proofs.YtmiilifclnanlaaGreat.Par
set_option linter.unusedVariables false
set_option linter.unusedSimpArgs false
namespace Go.Proofs.YtmiilifclnanlaaGreat
open Go Go.Wk Go.Proofs
theorem pkL_out {n:Nat}{k:List Int}(hk:k.length=n){v:Int}(hv:¬Xn n v):pkL k v= -1:=by
 unfold pkL
 cases e:idx k v with
 | none=>rfl
 | some x=>
  have:=idx_rng e
  exact absurd ⟨this.1,by omega⟩ hv
theorem Right_mix {g:Parity}{old:Answer}{e:Edit}(hR:RightA g old){A:List Bool}{W:Int→Prop}{k:List Int}(hA:A.length=g.Prio.length) (hV:Xn g.Prio.length e.V) (hT:bAt A e.V=true) (hcl:∀v u,(gI g).E v u→bAt A u=true→bAt A v=true) (hp':parityOk (editF g e)=true) (hl:(editF g e).Prio.length=g.Prio.length) (hS:Solv (editF g e) W k):
 RightA (editF g e) ⟨mixL A old.Won (wonL g.Prio.length W),mixL A old.Plan k⟩∧mixL A old.Won (wonL g.Prio.length W)=wonL g.Prio.length W:=by
 obtain⟨hp,W0,r1,r2,r3,r4⟩:=hR
 have hsol:=hS.sol
 have hsl:=hS.len
 have hans:=hS.ans
 rw[hl]at hsol hsl hans
 have hne:∀v,Xn g.Prio.length v→¬bAt A v=true→v≠e.V:=fun v _ hn e'=>hn (by rw[e'];exact hT)
 have hbs:∀v,Xn g.Prio.length v→¬bAt A v=true→(gI (editF g e)).own v=(gI g).own v∧(gI (editF g e)).pri v=(gI g).pri v∧∀u,(gI (editF g e)).E v u↔(gI g).E v u:=fun v hv hn=>besideG (hne v hv hn) hV.1 hv.1
 have hTT:∀v u,Xn g.Prio.length v→¬bAt A v=true→(gI (editF g e)).E v u→Xn g.Prio.length u→¬bAt A u=true:=fun v u hv hn he _ hu=>hn (hcl v u (((hbs v hv hn).2.2 u).1 he) hu)
 have hw:∀v,Xn g.Prio.length v→¬bAt A v=true→wB W0 v=wB W v:=fun v hv hn=>by
  refine Par.part_same (G:=gI (editF g e)) (G0:=gI g) (X:=Xn g.Prio.length) (T:=fun v=>bAt A v=true) (fun q=>r4.dom (n:=g.Prio.length) (b:=41) (fun v hv=>hv) (fun v hv=>?_) q) (fun q=>hsol.rg (fun v _=>?_) q) hTT (fun v hv hn=>(hbs v hv hn).1) (fun v hv hn=>(hbs v hv hn).2.1) (fun v u hv hn=>(hbs v hv hn).2.2 u) hv hn
  · have h:=GOk.of hp
    obtain⟨x,hx,hm⟩:=get_el (xs:=g.Prio) hv.1 hv.2
    have:=inR_iff.1 ((parity_get hp).2 x hm)
    have e':(gI g).pri v=x:=by
     show priL _ v=x
     unfold priL
     rw[hx];rfl
    rw[e'];exact this
  · unfold wB
    simp
 have hold:old.Won.length=g.Prio.length:=by rw[r1];exact wonL_len _ _
 have hwon:mixL A old.Won (wonL g.Prio.length W)=wonL g.Prio.length W:=by
  refine List.ext_getElem? fun i=>?_
  by_cases hi:i<g.Prio.length
  · have hv:Xn g.Prio.length (i:Int):=⟨by omega,by omega⟩
    have hm:=mixL_get hA hold (wonL_len g.Prio.length W) hv
    rw[idx_nat,idx_nat]at hm
    rw[hm]
    by_cases c:bAt A (i:Int)=true
    · rw[if_pos c]
    · rw[if_neg c,r1,idx_nat]
      unfold wonL
      rw[List.getElem?_map,List.getElem?_map,List.getElem?_range hi]
      have:=hw _ hv c
      unfold wB at this
      simp only[Option.map_some]
      rw[this]
  · rw[List.getElem?_eq_none (by rw[mixL_len,hA];omega),List.getElem?_eq_none (by rw[wonL_len];omega)]
 have hpl:pkL (mixL A old.Plan k)=fun v=>if bAt A v=true then pkL k v else pkL old.Plan v:=funext fun v=>by
  by_cases hv:Xn g.Prio.length v
  · have hm:=mixL_get hA r2 hsl hv
    unfold pkL
    rw[hm]
    by_cases c:bAt A v=true
    · rw[if_pos c,if_pos c]
    · rw[if_neg c,if_neg c]
  · rw[pkL_out (n:=g.Prio.length) (by rw[mixL_len,hA]) hv]
    by_cases c:bAt A v=true
    · rw[if_pos c,pkL_out hsl hv]
    · rw[if_neg c,pkL_out r2 hv]
 refine⟨⟨hp',W,?_,?_,fun v hv=>?_,?_⟩,hwon⟩
 · rw[hl,hwon]
 · rw[hl]
   show(mixL A old.Plan k).length=_
   rw[mixL_len,hA]
 · rw[hl]at hv
   show pkL (mixL A old.Plan k) v= -1∨0≤pkL (mixL A old.Plan k) v
   rw[hpl]
   dsimp only
   by_cases c:bAt A v=true
   · rw[if_pos c]
     obtain⟨x,hx⟩:=idx_some (xs:=k) hv.1 (by have:=hv.2;omega)
     rw[pkL_eq hx]
     exact hS.pick v x hx
   · rw[if_neg c]
     exact r3 v hv
 · rw[hl]
   show Par.Ans _ _ _ (pkL (mixL A old.Plan k))
   rw[hpl]
   have hm:=Par.Ans.mix (T:=fun v=>bAt A v=true) r4 hans hTT (fun v hv hn=>(hbs v hv hn).1) (fun v hv hn=>(hbs v hv hn).2.1) (fun v u hv hn=>(hbs v hv hn).2.2 u) hw
   refine cast (congrArg (Par.Ans _ _ _) (funext fun v=>?_)) hm
   by_cases c:bAt A v=true
   · rw[if_pos c,if_pos c]
   · rw[if_neg c,if_neg c]
end Go.Proofs.YtmiilifclnanlaaGreat
set_option linter.unusedVariables false
set_option linter.unusedSimpArgs false
namespace Go.Proofs.YtmiilifclnanlaaGreat
open Go Go.Wk Go.Proofs
def zeroP:Parity:=⟨⟨[],[]⟩,[]⟩
end Go.Proofs.YtmiilifclnanlaaGreat
set_option linter.unusedVariables false
set_option linter.unusedSimpArgs false
namespace Go.Proofs.YtmiilifclnanlaaGreat
open Go Go.Wk Go.Proofs
end Go.Proofs.YtmiilifclnanlaaGreat
set_option linter.unusedVariables false
set_option linter.unusedSimpArgs false
namespace Go.Proofs.YtmiilifclnanlaaGreat
open Go Go.Wk Go.Proofs
end Go.Proofs.YtmiilifclnanlaaGreat
set_option linter.unusedVariables false
set_option linter.unusedSimpArgs false
namespace Go.Proofs.YtmiilifclnanlaaGreat
open Go Go.Wk Go.Proofs
theorem l1same_refl (x:List Int):s_l1Same x x=some true:=by
 unfold s_l1Same
 rw[bne_self_eq_false,cond_false,cnt_all0 (f:=s_l1Same_b0 x x) (r:=false) (fun _=>true) (xs:=x) rfl (fun i y hy=>by
  unfold s_l1Same_b0
  rw[idx_nat,hy,Option.bind_some,Option.bind_some,bne_self_eq_false];rfl)]
 simp
 rfl
theorem same_refl {g:Parity}(hp:parityOk g=true):s_SameParity g g=some true:=by
 have ha:s_ArenaOk g.Arena=some true:=by
  rw[s_ArenaOk_eq]
  unfold parityOk at hp
  simp only[Bool.and_eq_true]at hp
  simp[hp]
 have hA:s_SameArena g.Arena g.Arena=some true:=by
  unfold s_SameArena
  rw[ha]
  simp only[Option.bind_some,Bool.not_true,cond_false,l1same_refl]
  rw[cnt_all0 (f:=s_SameArena_b0 g.Arena g.Arena) (r:=false) (fun _=>true) (xs:=g.Arena.Next) rfl (fun i y hy=>by
   unfold s_SameArena_b0
   rw[idx_nat,hy,Option.bind_some,Option.bind_some,l1same_refl];rfl)]
  simp
  rfl
 unfold s_SameParity
 rw[s_ParityOk_eq,hp,hA,l1same_refl]
 rfl
end Go.Proofs.YtmiilifclnanlaaGreat
set_option linter.unusedVariables false
set_option linter.unusedSimpArgs false
namespace Go.Proofs.YtmiilifclnanlaaGreat
open Go Go.Wk Go.Proofs
def backE (g:Parity) (e:Edit):Edit:=
 bif e.Kind==1 then⟨e.Kind,e.V,g.Prio.getD e.V.toNat 0⟩ else bif e.Kind==2 then⟨e.Kind,e.V,g.Arena.Owner.getD e.V.toNat 0⟩ else bif e.Kind==3 then⟨4,e.V,e.N⟩ else⟨3,e.V,e.N⟩
theorem Edited_ok {g:Parity}(hp:parityOk g=true){e:Edit}(he:editOk g e=true):s_Edited g e=some (editF g e,true)∧i_Edited g e=some (editF g e,true)∧parityOk (editF g e)=true:=by
 obtain⟨r,d1,d2,d3,_,d5⟩:=do_same3 hp he
 subst d5
 unfold s_Edited i_Edited
 rw[s_EditOk_eq,i_ParityOk_eq,Option.bind_some,Option.bind_some,hp,i_isEdit_eq hp,he]
 simp only[Bool.and_self,Bool.not_true,cond_false,Option.bind_some,d1,d2]
 exact⟨trivial,trivial,d3⟩
theorem Edited_no {g:Parity}{e:Edit}(h:(parityOk g&&editOk g e)=false):s_Edited g e=some (zeroP,false)∧i_Edited g e=some (zeroP,false):=by
 unfold s_Edited i_Edited
 rw[s_EditOk_eq,i_ParityOk_eq,Option.bind_some,Option.bind_some,h]
 cases hp:parityOk g with
 | false=>exact⟨rfl,rfl⟩
 | true=>
  rw[hp,Bool.true_and]at h
  rw[i_isEdit_eq hp,h]
  exact⟨rfl,rfl⟩
theorem set_same {α:Type}{xs:List α}{i:Nat}{x:α}(h:xs[i]? =some x):xs.set i x=xs:=by
 obtain⟨hi,e⟩:=List.getElem?_eq_some_iff.1 h
 subst e
 exact List.set_getElem_self hi
theorem getD_some {α:Type}{xs:List α}{i:Nat}{d:α}(h:i<xs.length):xs[i]? =some (xs.getD i d):=by
 rw[List.getD_eq_getElem?_getD,List.getElem?_eq_getElem h];rfl
theorem getD_of {α:Type}{xs:List α}{i:Nat}{x d:α}(h:xs[i]? =some x):xs.getD i d=x:=by
 rw[List.getD_eq_getElem?_getD,h];rfl
theorem hasI_mem (row:List Int) (z:Int):hasI row z=decide (z∈row):=by
 unfold hasI
 rw[Bool.eq_iff_iff]
 simp only[List.any_eq_true,beq_iff_eq,decide_eq_true_eq]
 exact⟨fun⟨x,hx,e⟩=>e ▸ hx,fun h=>⟨z,h,rfl⟩⟩
theorem cut_ins {n:Int}{xs:List Int}(h:Asc xs) (hn:n∉xs):(ins n xs).filter (fun x=>x !=n)=xs:=asc_eq ((ins_asc h).filter _) h fun z=>by
 rw[List.mem_filter,ins_mem hn]
 constructor
 · rintro⟨h1 | h1,h2⟩
   · simp[h1]at h2
   · exact h1
 · intro h1
   exact⟨.inr h1,by simp only[bne_iff_ne,ne_eq];exact fun e=>hn (e ▸ h1)⟩
theorem ins_cutF {n:Int}{xs:List Int}(h:Asc xs) (hn:n∈xs):ins n (xs.filter fun x=>x !=n)=xs:=asc_eq (ins_asc (h.filter _)) h fun z=>by
 rw[ins_mem (by simp),List.mem_filter]
 constructor
 · rintro(h1 | h1)
   · exact h1 ▸ hn
   · exact h1.1
 · intro h1
   by_cases e:z=n
   · exact .inl e
   · exact .inr ⟨h1,by simp[e]⟩
theorem undo_ok {g:Parity}(hp:parityOk g=true){e:Edit}(he:editOk g e=true):i_UndoneBy g e=some (backE g e,true)∧editOk (editF g e) (backE g e)=true∧editF (editF g e) (backE g e)=g:=by
 obtain⟨h1,h2,h3,h4,h5⟩:=parityOk_spec hp
 obtain⟨hO,hP⟩:=parity_get hp
 have he':=he
 unfold editOk at he'
 rw[Bool.and_eq_true]at he'
 obtain⟨v0,v1⟩:=inR_iff.1 he'.1
 have ha:g.Prio[e.V.toNat]? =some (g.Prio.getD e.V.toNat 0):=getD_some (by omega)
 have hb:g.Arena.Owner[e.V.toNat]? =some (g.Arena.Owner.getD e.V.toNat 0):=getD_some (by omega)
 have hr:g.Arena.Next[e.V.toNat]? =some (g.Arena.Next.getD e.V.toNat []):=getD_some (by omega)
 have hlt:e.V.toNat<g.Arena.Next.length:=by omega
 obtain⟨r1,r2,r3⟩:=h5 _ _ hr
 obtain⟨r4,r5⟩:=setOk_iff.1 r3
 have hk:=he'.2
 rw[hr]at hk
 simp only[editRow,hasI_mem]at hk
 have hU:i_UndoneBy g e=some (backE g e,true):=by
  unfold i_UndoneBy backE
  rw[i_ParityOk_eq,hp,Option.bind_some,i_isEdit_eq hp,he,idx_int v0,idx_int v0,ha,hb]
  cases e.Kind==1 <;> cases e.Kind==2 <;> cases e.Kind==3 <;> rfl
 refine⟨hU,?_⟩
 cases k1:e.Kind==1 with
 | true=>
  have hB:backE g e=⟨e.Kind,e.V,g.Prio.getD e.V.toNat 0⟩:=by unfold backE;rw[k1];rfl
  have hF:editF g e=⟨⟨g.Arena.Owner,g.Arena.Next⟩,g.Prio.set e.V.toNat e.N⟩:=by unfold editF;rw[k1];rfl
  rw[hB,hF]
  refine⟨?_,?_⟩
  · unfold editOk
    dsimp only
    rw[he'.1,hr]
    simp only[editRow,k1,cond_true,Bool.true_and]
    exact hP _ (List.mem_of_getElem? ha)
  · unfold editF
    dsimp only
    rw[k1,cond_true,List.set_set,set_same ha]
 | false=>
  cases k2:e.Kind==2 with
  | true=>
   have hB:backE g e=⟨e.Kind,e.V,g.Arena.Owner.getD e.V.toNat 0⟩:=by unfold backE;rw[k1,k2];rfl
   have hF:editF g e=⟨⟨g.Arena.Owner.set e.V.toNat e.N,g.Arena.Next⟩,g.Prio⟩:=by unfold editF;rw[k1,k2];rfl
   rw[hB,hF]
   refine⟨?_,?_⟩
   · unfold editOk
     dsimp only
     rw[List.length_set,he'.1,hr]
     simp only[editRow,k1,k2,cond_true,cond_false,Bool.true_and]
     exact hO _ (List.mem_of_getElem? hb)
   · unfold editF
     dsimp only
     rw[k1,k2,cond_false,cond_true,List.set_set,set_same hb]
  | false=>
   have hself:∀row:List Int,(g.Arena.Next.set e.V.toNat row)[e.V.toNat]? =some row:=fun row=>by
    rw[List.getElem?_set_self hlt]
   generalize hrow:g.Arena.Next.getD e.V.toNat []=row at hr r1 r2 r3 r4 r5 hk
   cases k3:e.Kind==3 with
   | true=>
    rw[k1,k2,k3]at hk
    simp only[cond_true,cond_false,Bool.and_eq_true,Bool.not_eq_true',decide_eq_false_iff_not,decide_eq_true_eq]at hk
    obtain⟨⟨n0,n1⟩,n2⟩:=hk
    have hB:backE g e=⟨4,e.V,e.N⟩:=by unfold backE;rw[k1,k2,k3];rfl
    have hF:editF g e=⟨⟨g.Arena.Owner,g.Arena.Next.set e.V.toNat (ins e.N row)⟩,g.Prio⟩:=by unfold editF;rw[k1,k2,k3,hrow];rfl
    rw[hB,hF]
    refine⟨?_,?_⟩
    · unfold editOk
      dsimp only
      rw[he'.1,hself]
      simp only[editRow,hasI_mem]
      show(true&&(decide (e.N∈ins e.N row)&&decide (1<((ins e.N row).length:Int))))=true
      have hl:=ins_length n1 r5
      rw[decide_eq_true ((ins_mem n1 e.N).2 (.inl rfl)),decide_eq_true (by omega)]
      rfl
    · unfold editF
      dsimp only
      rw[getD_of (hself _)]
      show(⟨⟨g.Arena.Owner,(g.Arena.Next.set e.V.toNat (ins e.N row)).set e.V.toNat ((ins e.N row).filter fun x=>x !=e.N)⟩,g.Prio⟩:Parity)=g
      rw[List.set_set,cut_ins r5 n1,set_same hr]
   | false=>
    cases k4:e.Kind==4 with
    | false=>rw[k1,k2,k3,k4]at hk;cases hk
    | true=>
     rw[k1,k2,k3,k4]at hk
     simp only[cond_true,cond_false,Bool.and_eq_true,decide_eq_true_eq]at hk
     obtain⟨n1,n2⟩:=hk
     have hB:backE g e=⟨3,e.V,e.N⟩:=by unfold backE;rw[k1,k2,k3];rfl
     have hF:editF g e=⟨⟨g.Arena.Owner,g.Arena.Next.set e.V.toNat (row.filter fun x=>x !=e.N)⟩,g.Prio⟩:=by unfold editF;rw[k1,k2,k3,hrow];rfl
     have hne:e.N∉row.filter fun x=>x !=e.N:=by simp
     have hI:=ins_cutF r5 n1
     have hl:=ins_length hne (r5.filter _)
     rw[hI]at hl
     rw[hB,hF]
     refine⟨?_,?_⟩
     · unfold editOk
       dsimp only
       rw[he'.1,hself]
       simp only[editRow,hasI_mem]
       show(true&&(inR (g.Arena.Owner.length:Int) e.N && !decide (e.N∈row.filter fun x=>x !=e.N)&&decide (((row.filter fun x=>x !=e.N).length:Int)<16)))=true
       rw[decide_eq_false hne,decide_eq_true (show((row.filter fun x=>x !=e.N).length:Int)<16 by omega),inR_iff.2 (r4 _ n1)]
       rfl
     · unfold editF
       dsimp only
       rw[getD_of (hself _)]
       show(⟨⟨g.Arena.Owner,(g.Arena.Next.set e.V.toNat (row.filter fun x=>x !=e.N)).set e.V.toNat (ins e.N (row.filter fun x=>x !=e.N))⟩,g.Prio⟩:Parity)=g
       rw[List.set_set,hI,set_same hr]
end Go.Proofs.YtmiilifclnanlaaGreat
set_option linter.unusedVariables false
set_option linter.unusedSimpArgs false
namespace Go.Proofs.YtmiilifclnanlaaGreat
open Go Go.Wk Go.Proofs
def Cur (i:Int):Prop:=0≤i∧i≤4096
theorem and255 (A:BitVec (IntKind.bits IntKind.i64)):0≤IntKind.i64.wrap ((A &&& BitVec.ofInt (IntKind.bits IntKind.i64) 255).toNat:Int)∧IntKind.i64.wrap ((A &&& BitVec.ofInt (IntKind.bits IntKind.i64) 255).toNat:Int)≤255:=by
 have h:(A &&& BitVec.ofInt (IntKind.bits IntKind.i64) 255).toNat≤255:=by
  rw[BitVec.toNat_and,toNat_ofInt64 (by omega) (by omega)]
  exact Nat.and_le_right
 rw[wr' (by omega) (by omega)]
 omega
section
variable {b:List Int}(hl:b.length≤4096)
include hl
theorem byte_d {i h:Int}(hi:Cur i):∃x i' h',s_l1Byte ⟨b,i,h⟩=some (x,i',h')∧0≤x∧x≤255∧Cur i':=by
 obtain⟨i0,i1⟩:=hi
 unfold s_l1Byte
 dsimp only
 by_cases hlt:i<(b.length:Int)
 · obtain⟨y,hy,_⟩:=get_el (xs:=b) i0 hlt
   simp only[hlt,decide_true,cond_true,hy,Option.bind_some]
   refine⟨_,_,_,rfl,(and255 _).1,(and255 _).2,?_⟩
   show Cur (IntKind.i64.wrap (i+1))
   rw[wr' (by omega) (by omega)];unfold Cur;omega
 · simp only[hlt,decide_false,cond_false,Option.bind_some]
   exact⟨_,_,_,rfl,(and255 _).1,(and255 _).2,i0,i1⟩
theorem below_d {i h:Int}(hi:Cur i) (k:Int):∃x i' h',s_l1Below ⟨b,i,h⟩ k=some (x,i',h')∧0≤x∧(1≤k→x<k)∧Cur i':=by
 unfold s_l1Below
 by_cases hk:k≤0
 · simp only[hk,decide_true,cond_true]
   exact⟨_,_,_,rfl,Int.le_refl _,fun h=>by omega,hi⟩
 · simp only[hk,decide_false,cond_false]
   have hnz:nz k=some ():=by unfold nz;rw[if_neg (by omega)]
   obtain⟨x1,i1,h1,e1,a0,a1,c1⟩:=byte_d hl (h:=h) hi
   by_cases hk2:k≤256
   · simp only[hk2,decide_true,cond_true,e1,Option.bind_some,hnz]
     rw[Int.tmod_eq_emod_of_nonneg a0]
     exact⟨_,_,_,rfl,Int.emod_nonneg _ (by omega),fun _=>Int.emod_lt_of_pos _ (by omega),c1⟩
   · simp only[hk2,decide_false,cond_false,e1,Option.bind_some,hnz]
     obtain⟨x2,i2,h2,e2,b0,b1,c2⟩:=byte_d hl (h:=h1) c1
     obtain⟨x3,i3,h3,e3,d0,d1,c3⟩:=byte_d hl (h:=h2) c2
     obtain⟨x4,i4,h4,e4,f0,f1,c4⟩:=byte_d hl (h:=h3) c3
     simp only[e2,e3,e4,Option.bind_some]
     rw[wr' (z:=x1 * 16777216) (by omega) (by omega),wr' (z:=x2 * 65536) (by omega) (by omega),wr' (z:=x3 * 256) (by omega) (by omega),wr' (z:=x1 * 16777216+x2 * 65536) (by omega) (by omega),wr' (z:=x1 * 16777216+x2 * 65536+x3 * 256) (by omega) (by omega),wr' (by omega) (by omega),Int.tmod_eq_emod_of_nonneg (by omega)]
     exact⟨_,_,_,rfl,Int.emod_nonneg _ (by omega),fun _=>Int.emod_lt_of_pos _ (by omega),c4⟩
theorem once_d {i h:Int}(hi:Cur i) (k:Int):∃x i' h',s_l1Once ⟨b,i,h⟩ k=some (x,i',h')∧Cur i':=by
 obtain⟨x,i',h',e,_,_,c⟩:=below_d hl (h:=h) hi k
 unfold s_l1Once
 rw[e]
 exact⟨_,_,_,rfl,c⟩
theorem odd_d {i h:Int}(hi:Cur i):∃x i' h',s_l1Odd ⟨b,i,h⟩=some (x,i',h')∧Cur i':=by
 obtain⟨x,i',h',e,x0,x1,c⟩:=below_d hl (h:=h) hi 10
 unfold s_l1Odd
 rw[e,Option.bind_some]
 have x1:=x1 (by omega)
 obtain⟨y,hy,_⟩:=get_el (xs:=([(-1),0,1,2147483648,(-2147483648),1099511627776,4611686018427387904,(-4611686018427387904),9223372036854775807,(-9223372036854775808)]:List Int)) x0 (by simp;omega)
 dsimp only
 rw[hy]
 exact⟨_,_,_,rfl,c⟩
theorem num_d {i h:Int}(hi:Cur i) (k:Int):∃x i' h',s_l1Num ⟨b,i,h⟩ k=some (x,i',h')∧Cur i':=by
 obtain⟨x1,i1,h1,e1,c1⟩:=once_d hl (h:=h) hi 10
 unfold s_l1Num
 rw[e1,Option.bind_some]
 dsimp only
 cases x1 with
 | true=>
  obtain⟨x2,i2,h2,e2,c2⟩:=odd_d hl (h:=h1) c1
  obtain⟨x3,i3,h3,e3,a0,a1,c3⟩:=below_d hl (h:=h2) c2 4
  have a1:=a1 (by omega)
  obtain⟨y,hy,_⟩:=get_el (xs:=([(-1),k,(IntKind.i64.wrap (k+1)),x2]:List Int)) a0 (by simp;omega)
  simp only[cond_true,e2,e3,hy,Option.bind_some]
  exact⟨_,_,_,rfl,c3⟩
 | false=>
  obtain⟨x2,i2,h2,e2,c2⟩:=once_d hl (h:=h1) c1 2
  simp only[cond_false,e2,Option.bind_some]
  cases x2 with
  | true=>
   have hm:∃z,s_l1Min k 4=some z:=by
    unfold s_l1Min
    by_cases h:k<4 <;> simp[h]
   obtain⟨z,hz⟩:=hm
   obtain⟨x3,i3,h3,e3,_,_,c3⟩:=below_d hl (h:=h2) c2 (IntKind.i64.wrap (z+1))
   simp only[cond_true,hz,e3,Option.bind_some]
   exact⟨_,_,_,rfl,c3⟩
  | false=>
   obtain⟨x3,i3,h3,e3,_,_,c3⟩:=below_d hl (h:=h2) c2 (IntKind.i64.wrap (k+1))
   simp only[cond_false,e3,Option.bind_some]
   exact⟨_,_,_,rfl,c3⟩
end
end Go.Proofs.YtmiilifclnanlaaGreat
set_option linter.unusedVariables false
set_option linter.unusedSimpArgs false
namespace Go.Proofs.YtmiilifclnanlaaGreat
open Go Go.Wk Go.Proofs
theorem into_d {xs:List Int}(hx:xs.length≤1000) (v:Int):∃ys,s_l1Into xs v=some ys∧ys.length≤xs.length+1:=by
 unfold s_l1Into
 obtain⟨o,w1,w2⟩:=while_out (f:=s_l1Into_b0 xs v) (fun j (s:Int)=>s=(j:Int)∧j≤xs.length) (fun _=>False) (fun s=>∃j:Nat,s=(j:Int)∧j≤xs.length) xs.length (fun j s ⟨hs,hj⟩=>by
  subst hs
  unfold s_l1Into_b0
  by_cases hlt:(j:Int)<(xs.length:Int)
  · obtain⟨y,hy⟩:∃y,xs[j]? =some y:=⟨_,List.getElem?_eq_getElem (by omega)⟩
    simp only[hlt,decide_true,cond_true,idx_nat,hy,Option.bind_some]
    cases decide (y<v) with
    | true=>
     refine⟨_,rfl,by omega,?_,by omega⟩
     rw[wr' (by omega) (by omega)];omega
    | false=>exact⟨_,rfl,j,rfl,hj⟩
  · simp only[hlt,decide_false,cond_false,Option.bind_some]
    exact⟨_,rfl,j,rfl,hj⟩) (2 ^ 64) 0 0 (by omega) ⟨rfl,by omega⟩ (by omega)
 match o,w2 with
 | .inr s,⟨j,hs,hj⟩=>
  subst hs
  rw[w1,Option.bind_some,aft_inr]
  have h1:∃c,(bif decide ((j:Int)<(xs.length:Int)) then Option.bind (idx xs (j:Int)) fun x28=>some (x28==v) else some false)=some c:=by
   by_cases hlt:(j:Int)<(xs.length:Int)
   · obtain⟨y,hy⟩:∃y,xs[j]? =some y:=⟨_,List.getElem?_eq_getElem (by omega)⟩
     simp only[hlt,decide_true,cond_true,idx_nat,hy,Option.bind_some]
     exact⟨_,rfl⟩
   · simp only[hlt,decide_false,cond_false]
     exact⟨_,rfl⟩
  obtain⟨c,hc⟩:=h1
  rw[hc,Option.bind_some]
  cases c with
  | true=>exact⟨xs,rfl,by omega⟩
  | false=>
   have s1:subS xs 0 (j:Int)=some (xs.take j):=by
    unfold subS
    rw[if_pos ⟨by omega,by omega,by omega⟩]
    simp
   have s2:subS xs (j:Int) (xs.length:Int)=some (xs.drop j):=by
    unfold subS
    rw[if_pos ⟨by omega,by omega,by omega⟩]
    simp
   have l1:(xs.take j).length≤1000:=by rw[List.length_take];omega
   have l2:(xs.drop j).length≤1000:=by rw[List.length_drop];omega
   have c1:s_l1Copy (xs.take j)=some (xs.take j):=by
    unfold s_l1Copy
    rw[appL (by simp only[List.length_nil];omega) rfl];rfl
   simp only[cond_false,s1,c1,s2,Option.bind_some]
   rw[app1 (by omega) rfl,Option.bind_some,appL (by simp only[List.length_append,List.length_cons,List.length_nil];omega) rfl]
   refine⟨_,rfl,?_⟩
   simp only[List.length_append,List.length_take,List.length_drop,List.length_cons,List.length_nil]
   omega
theorem into_o {xs:List Int}(hx:xs.length≤1000) (v:Int):∃ys,s_l1Into__own0 xs v=some ys∧ys.length≤xs.length+1:=into_d hx v
def ArB (a:Arena):Prop:=a.Owner.length≤300∧a.Next.length≤300∧∀r∈a.Next,r.length≤20
def ArOk (a:Arena):Prop:=1≤a.Owner.length∧a.Owner.length≤8∧a.Next.length=a.Owner.length∧∀r∈a.Next,r.length≤10
section
variable {b:List Int}(hl:b.length≤4096)
include hl
theorem from_d {i h:Int}(hi:Cur i) (k m:Int):∃x i' h',s_l1From ⟨b,i,h⟩ k m=some (x,i',h')∧Cur i':=by
 obtain⟨x,i',h',e,_,_,c⟩:=below_d hl (h:=h) hi (IntKind.i64.wrap (IntKind.i64.wrap (m-k)+1))
 unfold s_l1From
 rw[e]
 exact⟨_,_,_,rfl,c⟩
theorem draw1_d {i h:Int}(hi:Cur i):∃a i' h',s_l1Draw ⟨b,i,h⟩=some (a,i',h')∧Cur i'∧ArOk a:=by
 obtain⟨x1,i1,h1,e1,a0,a1,c1⟩:=below_d hl (h:=h) hi 8
 have a1:=a1 (by omega)
 unfold s_l1Draw
 rw[e1,Option.bind_some]
 dsimp only
 obtain⟨n,hn⟩:∃n:Nat,1+x1=(n:Int):=ex_nat (by omega)
 have hr:rng (n:Int)=some ():=by unfold rng;rw[if_pos (by omega)]
 rw[wr' (z:=1+x1) (by omega) (by omega),hn,hr,Option.bind_some,Int.sub_zero,Int.toNat_natCast]
 obtain⟨s,k1,k2,k3,k4,k5⟩:=cnt_inv (f:=s_l1Draw_b0 ⟨b,i,h⟩ (x1,i1,h1)) (fun j (s:Int×Int×List Int×List (List Int))=>Cur s.1∧s.2.2.1.length=j∧s.2.2.2.length=j∧∀r∈s.2.2.2,r.length≤10) n (s:=(i1,h1,[],[])) ⟨c1,rfl,rfl,by simp⟩ (fun j s hj ⟨g1,g2,g3,g4⟩=>by
  obtain⟨x2,i2,h2,e2,b0,b1,c2⟩:=below_d hl (h:=s.2.1) g1 3
  have b1:=b1 (by omega)
  unfold s_l1Draw_b0
  rw[e2,Option.bind_some]
  dsimp only
  rw[wr' (z:=1+x2) (by omega) (by omega)]
  obtain⟨o,u1,u2⟩:=while_out (f:=s_l1Draw_b2 ⟨b,i,h⟩ (x1,i1,h1)) (fun j (t:List Int×Int×Int×Int)=>t.2.1=1+x2-(j:Int)∧0≤t.2.1∧Cur t.2.2.1∧t.1.length≤j) (fun _=>False) (fun t=>Cur t.2.2.1∧t.1.length≤10) 3 (fun j t ⟨m1,m2,m3,m4⟩=>by
   unfold s_l1Draw_b2
   by_cases hlt:0<t.2.1
   · obtain⟨x3,i3,h3,e3,_,_,c3⟩:=below_d hl (h:=t.2.2.2) m3 (IntKind.i64.wrap (1+x1))
     obtain⟨ys,f1,f2⟩:=into_o (xs:=t.1) (by omega) x3
     simp only[hlt,decide_true,cond_true,e3,f1,Option.bind_some]
     refine⟨_,rfl,by omega,?_,?_,c3,by dsimp only;omega⟩
     · dsimp only;rw[wr' (by omega) (by omega)];omega
     · dsimp only;rw[wr' (by omega) (by omega)];omega
   · simp only[hlt,decide_false,cond_false]
     exact⟨_,rfl,m3,by dsimp only;omega⟩) (2 ^ 64) 0 ([],1+x2,i2,h2) (by omega) ⟨by simp,by dsimp only;omega,c2,by simp⟩ (by omega)
  match o,u2 with
  | .inr t,⟨t1,t2⟩=>
   rw[u1]
   simp only[Option.bind_some,aft_inr]
   obtain⟨x4,i4,h4,e4,_,_,c4⟩:=below_d hl (h:=t.2.2.2) t1 2
   rw[e4,Option.bind_some,app1 (by omega) rfl,Option.bind_some,app1 (by omega) rfl]
   refine⟨_,rfl,c4,by dsimp only;rw[List.length_append,g2];rfl,by dsimp only;rw[List.length_append,g3];rfl,fun r hr=>?_⟩
   rcases List.mem_append.1 hr with hr | hr
   · exact g4 r hr
   · rw[List.mem_singleton.1 hr];exact t2)
 rw[k1]
 exact⟨_,_,_,rfl,k2,by dsimp only;omega,by dsimp only;omega,by dsimp only;omega,k5⟩
theorem drawAny1_b {i h:Int}(hi:Cur i):∃a i' h',s_l1DrawAny ⟨b,i,h⟩=some (a,i',h')∧Cur i'∧ArB a:=by
 obtain⟨a,i1,h1,e1,c1,a1,a2,a3,a4⟩:=draw1_d hl (h:=h) hi
 obtain⟨q,i2,h2,e2,c2⟩:=once_d hl (h:=h1) c1 6
 unfold s_l1DrawAny
 simp only[e1,e2,Option.bind_some]
 cases q with
 | false=>exact⟨_,_,_,rfl,c2,by dsimp only;omega,by dsimp only;omega,fun r hr=>by have:=a4 r hr;omega⟩
 | true=>
  obtain⟨v,i3,h3,e3,v0,v1,c3⟩:=below_d hl (h:=h2) c2 (a.Owner.length:Int)
  have v1:=v1 (by omega)
  obtain⟨k,i4,h4,e4,_,_,c4⟩:=below_d hl (h:=h3) c3 6
  obtain⟨vn,rfl⟩:=ex_nat v0
  have hvo:vn<a.Owner.length:=by omega
  have hvn:vn<a.Next.length:=by omega
  obtain⟨o,ho⟩:∃y,a.Owner[vn]? =some y:=⟨_,List.getElem?_eq_getElem hvo⟩
  obtain⟨r,hr⟩:∃y,a.Next[vn]? =some y:=⟨_,List.getElem?_eq_getElem hvn⟩
  have hrl:=a4 r (List.mem_of_getElem? hr)
  simp only[cond_true,e3,e4,Option.bind_some,idx_nat,ho,hr]
  obtain⟨x5,i5,h5,e5,c5⟩:=from_d hl (h:=h4) c4 (-1) 2
  obtain⟨x6,i6,h6,e6,c6⟩:=num_d hl (h:=h4) c4 256
  have hw:∃s:Int×Int×Int×List Int×List (List Int),whileM (s_l1DrawAny_b1 ⟨b,i,h⟩) (2 ^ 64) (0,i4,h4,[],[])=some (.inr s)∧Cur s.2.1∧s.2.2.2.1.length≤300∧s.2.2.2.2.length≤300∧∀r∈s.2.2.2.2,r.length≤20:=by
   obtain⟨o,u1,u2⟩:=while_out (f:=s_l1DrawAny_b1 ⟨b,i,h⟩) (fun j (s:Int×Int×Int×List Int×List (List Int))=>s.1=(j:Int)∧j≤300∧Cur s.2.1∧s.2.2.2.1.length=j∧s.2.2.2.2.length=j∧∀r∈s.2.2.2.2,r.length≤20) (fun _=>False) (fun s=>Cur s.2.1∧s.2.2.2.1.length≤300∧s.2.2.2.2.length≤300∧∀r∈s.2.2.2.2,r.length≤20) 300 (fun j s ⟨m1,m0,m2,m3,m4,m5⟩=>by
    obtain⟨x7,i7,h7,e7,y0,y1,c7⟩:=below_d hl (h:=s.2.2.1) m2 2
    have y1:=y1 (by omega)
    unfold s_l1DrawAny_b1
    simp only[e7,Option.bind_some]
    rw[wr' (z:=256+x7) (by omega) (by omega)]
    by_cases hlt:s.1<256+x7
    · simp only[hlt,decide_true,cond_true]
      rw[app1 (by omega) rfl,Option.bind_some,app1 (by omega) rfl]
      refine⟨_,rfl,by omega,?_,by omega,c7,by dsimp only;rw[List.length_append,m3];rfl,by dsimp only;rw[List.length_append,m4];rfl,fun r hr=>by
       rcases List.mem_append.1 hr with hr | hr
       · exact m5 r hr
       · rw[List.mem_singleton.1 hr];simp⟩
      dsimp only;rw[wr' (by omega) (by omega)];omega
    · simp only[hlt,decide_false,cond_false]
      exact⟨_,rfl,c7,by dsimp only;omega,by dsimp only;omega,m5⟩) (2 ^ 64) 0 (0,i4,h4,[],[]) (by omega) ⟨by simp,by omega,c4,rfl,rfl,by simp⟩ (by omega)
   match o,u2 with
   | .inr s,u2=>exact⟨s,u1,u2⟩
  obtain⟨s,u1,u2⟩:=hw
  have t1:∀y:Int,setI a.Owner (vn:Int) y=some (a.Owner.set vn y):=fun y=>setI_nat hvo
  have t2:∀y:List Int,setI a.Next (vn:Int) y=some (a.Next.set vn y):=fun y=>setI_nat hvn
  have t3:appS 8 r [x6]=some (r++[x6]):=app1 (by omega) rfl
  have t4:appS 8 a.Owner [0]=some (a.Owner++[0]):=app1 (by omega) rfl
  have t5:mkS 8 17 (0:Int)=some (List.replicate 17 0):=mkS_nat (m:=17) (by omega) rfl
  have q1:∀y:List Int,y.length≤20→∀r∈a.Next.set vn y,r.length≤20:=fun y hy r hr=>by
   rcases List.mem_or_eq_of_mem_set hr with h | h
   · have:=a4 r h;omega
   · rw[h];exact hy
  have q2:∀r∈a.Next,r.length≤20:=fun r hr=>by have:=a4 r hr;omega
  cases k==0 with
  | true=>simp only[cond_true,e5,t1,Option.bind_some];exact⟨_,_,_,rfl,c5,by simp;omega,by dsimp only;omega,q2⟩
  | false=>
   cases k==1 with
   | true=>simp only[cond_true,cond_false,e6,t2,t3,Option.bind_some];exact⟨_,_,_,rfl,c6,by dsimp only;omega,by simp;omega,q1 _ (by simp;omega)⟩
   | false=>
    cases k==2 with
    | true=>simp only[cond_true,cond_false,t2,Option.bind_some];exact⟨_,_,_,rfl,c4,by dsimp only;omega,by simp;omega,q1 _ (by simp)⟩
    | false=>
     cases k==3 with
     | true=>simp only[cond_true,cond_false,t4,Option.bind_some];exact⟨_,_,_,rfl,c4,by simp;omega,by dsimp only;omega,q2⟩
     | false=>
      cases k==4 with
      | true=>simp only[cond_true,cond_false,u1,aft_inr,Option.bind_some];exact⟨_,_,_,rfl,u2.1,u2.2.1,u2.2.2.1,u2.2.2.2⟩
      | false=>
       cases k==5 with
       | true=>simp only[cond_true,cond_false,t5,t2,Option.bind_some];exact⟨_,_,_,rfl,c4,by dsimp only;omega,by simp;omega,q1 _ (by simp)⟩
       | false=>simp only[cond_false,Option.bind_some];exact⟨_,_,_,rfl,c4,by dsimp only;omega,by dsimp only;omega,q2⟩
end
theorem new_d {b:List Int}:∃h,s_l1New b=some ⟨b,0,h⟩:=by
 obtain⟨s,h1,_⟩:=cnt_inv (f:=s_l1New_b0 b) (fun _ _=>True) b.length (s:=IntKind.i64.wrap (560017+(b.length:Int))) trivial (fun j s hj _=>by
  have hx:b[j]? =some b[j]:=List.getElem?_eq_getElem hj
  unfold s_l1New_b0
  rw[idx_nat,hx,Option.bind_some]
  exact⟨_,rfl,trivial⟩)
 unfold s_l1New
 rw[h1]
 exact⟨s,rfl⟩
end Go.Proofs.YtmiilifclnanlaaGreat
set_option linter.unusedVariables false
set_option linter.unusedSimpArgs false
namespace Go.Proofs.YtmiilifclnanlaaGreat
open Go Go.Wk Go.Proofs
theorem bq {α β:Type}{o:Option α}{f:α→Option β}{P:α→Prop}{R:β→Prop}(h:∃q,o=some q∧P q) (k:∀q,P q→∃r,f q=some r∧R r):∃r,Option.bind o f=some r∧R r:=by
 obtain⟨q,e,hq⟩:=h
 obtain⟨r,hr⟩:=k q hq
 exact⟨r,by rw[e];exact hr.1,hr.2⟩
theorem biq {β:Type}{c:Bool}{A B:Option β}{R:β→Prop}(h1:c=true→∃r,A=some r∧R r) (h2:c=false→∃r,B=some r∧R r):∃r,(bif c then A else B)=some r∧R r:=by
 cases c with
 | true=>exact h1 rfl
 | false=>exact h2 rfl
section
variable {b:List Int}(hl:b.length≤4096)
include hl
theorem below_q {i h:Int}(hi:Cur i) (k:Int):∃r,s_l1Below ⟨b,i,h⟩ k=some r∧(0≤r.1∧(1≤k→r.1<k)∧Cur r.2.1):=by
 obtain⟨x,i',h',e,r⟩:=below_d hl (h:=h) hi k
 exact⟨_,e,r⟩
theorem once_q {i h:Int}(hi:Cur i) (k:Int):∃r,s_l1Once ⟨b,i,h⟩ k=some r∧Cur r.2.1:=by
 obtain⟨x,i',h',e,r⟩:=once_d hl (h:=h) hi k
 exact⟨_,e,r⟩
theorem num_q {i h:Int}(hi:Cur i) (k:Int):∃r,s_l1Num ⟨b,i,h⟩ k=some r∧Cur r.2.1:=by
 obtain⟨x,i',h',e,r⟩:=num_d hl (h:=h) hi k
 exact⟨_,e,r⟩
theorem from_q {i h:Int}(hi:Cur i) (k m:Int):∃r,s_l1From ⟨b,i,h⟩ k m=some r∧Cur r.2.1:=by
 obtain⟨x,i',h',e,r⟩:=from_d hl (h:=h) hi k m
 exact⟨_,e,r⟩
theorem drawP_q {i h:Int}(hi:Cur i):∃r,s_l4Draw ⟨b,i,h⟩=some r∧(Cur r.2.1∧1≤r.1.Prio.length∧r.1.Prio.length≤8):=by
 obtain⟨a,i1,h1,e1,c1,a1,a2,_⟩:=draw1_d hl (h:=h) hi
 unfold s_l4Draw
 rw[e1,Option.bind_some]
 refine bq (below_q hl c1 4) fun x10 ⟨_,_,c2⟩=>?_
 obtain⟨s,k1,k2,k3⟩:=cnt_inv (f:=s_l4Draw_b0 ⟨b,i,h⟩ x10) (fun j (s:Int×Int×List Int)=>Cur s.1∧s.2.2.length=j) a.Owner.length (s:=(x10.2.1,x10.2.2,[])) ⟨c2,rfl⟩ (fun j s hj ⟨g1,g2⟩=>by
  obtain⟨x,e2,_,_,c3⟩:=below_q hl (h:=s.2.1) g1 (IntKind.i64.wrap (3+x10.1))
  unfold s_l4Draw_b0
  rw[e2,Option.bind_some,app1 (by omega) rfl]
  exact⟨_,rfl,c3,by dsimp only;rw[List.length_append,g2];rfl⟩)
 dsimp only
 rw[k1]
 exact⟨_,rfl,k2,by dsimp only;omega,by dsimp only;omega⟩
theorem drawPAny_q {i h:Int}(hi:Cur i):∃r,s_l4DrawAny ⟨b,i,h⟩=some r∧Cur r.2.1:=by
 unfold s_l4DrawAny
 refine bq (drawP_q hl hi) fun x5 ⟨c1,p1,p2⟩=>bq (once_q hl c1 8) fun x7 c2=>bq (P:=fun q=>Cur q.1) (biq (fun _=>bq (below_q hl c2 3) fun x9 ⟨_,_,c3⟩=>bq (P:=fun q=>Cur q.1) (biq (fun _=>?_) fun _=>?_) fun _ c=>⟨_,rfl,c⟩) fun _=>⟨_,rfl,c2⟩) fun _ c=>⟨_,rfl,c⟩
 · refine bq (num_q hl c3 40) fun x15 c4=>?_
   obtain⟨y,hy,_⟩:=get_el (xs:=x5.1.Prio) (z:=0) (by omega) (by omega)
   have hs:setI x5.1.Prio 0 x15.1=some (x5.1.Prio.set 0 x15.1):=setI_nat (i:=0) (by omega)
   rw[hy,Option.bind_some,hs]
   exact⟨_,rfl,c4⟩
 · refine bq (P:=fun q=>Cur q.1) (biq (fun _=>?_) fun _=>bq (P:=fun q=>Cur q.1) (biq (fun _=>?_) fun _=>⟨_,rfl,c3⟩) fun _ c=>⟨_,rfl,c⟩) fun _ c=>⟨_,rfl,c⟩
   · rw[app1 (by omega) rfl]
     exact⟨_,rfl,c3⟩
   · obtain⟨a,i4,h4,e4,c4,_⟩:=drawAny1_b hl (h:=x9.2.2) c3
     rw[e4]
     exact⟨_,rfl,c4⟩
theorem draw32_q {i h:Int}(hi:Cur i) (g:Parity):∃r,s_l32Draw ⟨b,i,h⟩ g=some r∧Cur r.2.1:=by
 unfold s_l32Draw
 refine bq (below_q hl hi 4) fun x11 ⟨_,_,c1⟩=>bq (below_q hl c1 _) fun x15 ⟨p0,_,c2⟩=>bq (P:=fun q=>Cur q.1) ?_ fun q1 c3=>bq (once_q hl c3 10) fun x80 c4=>bq (P:=fun q=>Cur q.1) ?_ fun q6 c5=>⟨_,rfl,c5⟩
 · refine biq (fun _=>bq (below_q hl c2 6) fun x ⟨_,_,c⟩=>⟨_,rfl,c⟩) fun _=>bq (P:=fun q=>Cur q.1) ?_ fun _ c=>⟨_,rfl,c⟩
   refine biq (fun _=>bq (below_q hl c2 2) fun x ⟨_,_,c⟩=>⟨_,rfl,c⟩) fun _=>bq (P:=fun q=>Cur q.1) ?_ fun _ c=>⟨_,rfl,c⟩
   refine biq (fun _=>bq (below_q hl c2 _) fun x ⟨_,_,c⟩=>⟨_,rfl,c⟩) fun _=>bq (P:=fun q=>Cur q.1) ?_ fun _ c=>⟨_,rfl,c⟩
   refine biq (fun _=>bq (below_q hl c2 _) fun x39 ⟨_,_,c3⟩=>?_) fun _=>⟨_,rfl,c2⟩
   refine bq (P:=fun q=>q=true→∃r,idx g.Arena.Next x15.1=some r∧0<r.length) (biq (fun hc=>?_) fun _=>⟨_,rfl,fun e=>by cases e⟩) fun p58 hp=>bq (P:=fun q=>Cur q.1) (biq (fun hc=>?_) fun _=>⟨_,rfl,c3⟩) fun _ c=>⟨_,rfl,c⟩
   · have hc:=of_decide_eq_true hc
     obtain⟨r,hr,_⟩:=get_el (xs:=g.Arena.Next) p0 hc
     rw[hr]
     exact⟨_,rfl,fun e=>⟨r,rfl,by have:=of_decide_eq_true e;omega⟩⟩
   · obtain⟨r,hr,hlen⟩:=hp hc
     rw[hr,Option.bind_some,Option.bind_some]
     refine bq (below_q hl c3 _) fun x75 ⟨q0,q1,c4⟩=>?_
     obtain⟨y,hy,_⟩:=get_el (xs:=r) q0 (q1 (by omega))
     rw[hy]
     exact⟨_,rfl,c4⟩
 · refine biq (fun _=>bq (below_q hl c4 3) fun x82 ⟨_,_,c5⟩=>bq (P:=fun q=>Cur q.1) ?_ fun _ c=>⟨_,rfl,c⟩) fun _=>⟨_,rfl,c4⟩
   refine biq (fun _=>bq (from_q hl c5 0 5) fun x c=>⟨_,rfl,c⟩) fun _=>bq (P:=fun q=>Cur q.1) ?_ fun _ c=>⟨_,rfl,c⟩
   refine biq (fun _=>bq (num_q hl c5 _) fun x c=>⟨_,rfl,c⟩) fun _=>bq (P:=fun q=>Cur q.1) ?_ fun _ c=>⟨_,rfl,c⟩
   exact biq (fun _=>bq (num_q hl c5 _) fun x c=>⟨_,rfl,c⟩) fun _=>⟨_,rfl,c5⟩
end
end Go.Proofs.YtmiilifclnanlaaGreat
set_option linter.unusedVariables false
set_option linter.unusedSimpArgs false
namespace Go.Proofs.YtmiilifclnanlaaGreat
open Go Go.Wk Go.Proofs
theorem cnt_pick {ρ:Type}{f:Int→List Int→Option (ρ⊕(List Int⊕List Int))}{c:Nat→Bool}{n:Nat}(h:∀(j:Nat) (s:List Int),j<n→s.length≤j→f (j:Int) s=some (.inr (.inr (bif c j then s++[(j:Int)] else s)))):
 ∃L,cntM f n 0 []=some (.inr L)∧Asc L∧(∀x∈L,0≤x∧x<(n:Int))∧∀v:Nat,v<n→((v:Int)∈L↔c v=true):=by
 obtain⟨L,k1,k2,k3,k4,k5⟩:=cnt_inv (f:=f) (fun j (s:List Int)=>s.length≤j∧Asc s∧(∀x∈s,0≤x∧x<(j:Int))∧∀v:Nat,v<j→((v:Int)∈s↔c v=true)) n (s:=[]) ⟨by simp,List.Pairwise.nil,by simp,fun v hv=>absurd hv (Nat.not_lt_zero v)⟩ (fun j s hj ⟨a1,a2,a3,a4⟩=>by
  refine⟨_,h j s hj a1,?_⟩
  cases hc:c j with
  | true=>
   refine⟨by simp;omega,List.pairwise_append.2 ⟨a2,List.pairwise_singleton ..,fun x hx y hy=>?_⟩,fun x hx=>?_,fun v hv=>?_⟩
   · rw[List.mem_singleton.1 hy];exact(a3 x hx).2
   · rcases List.mem_append.1 hx with hx | hx
     · have:=a3 x hx;omega
     · rw[List.mem_singleton.1 hx];omega
   · rw[cond_true,List.mem_append,List.mem_singleton]
     by_cases hvj:v=j
     · subst hvj;simp[hc]
     · rw[a4 v (by omega)]
       have:¬(v:Int)=(j:Int):=by omega
       simp[this]
  | false=>
   refine⟨by rw[cond_false];omega,a2,fun x hx=>?_,fun v hv=>?_⟩
   · have:=a3 x hx;omega
   · rw[cond_false]
     by_cases hvj:v=j
     · subst hvj
       constructor
       · intro hm;have:=(a3 _ hm).2;omega
       · intro hm;rw[hc]at hm;cases hm
     · exact a4 v (by omega))
 exact⟨L,k1,k3,k4,k5⟩
theorem partIn_ok {xs ys:List Int}{n:Nat}(hn:n≤256) (hx:Asc xs) (rx:∀x∈xs,0≤x∧x<(n:Int)) (hy:Asc ys) (ry:∀x∈ys,0≤x∧x<(n:Int)) (hs:∀x∈xs,x∈ys):s_PartIn xs ys=some true:=by
 have ok:∀{zs:List Int},Asc zs→(∀x∈zs,0≤x∧x<(n:Int))→s_SetOk zs 256=some true:=fun {zs} h r=>by
  have hl:=nodup_lenN n zs (asc_nodup h) r
  unfold s_SetOk
  rw[s_l1In_eq,s_l1Set_eq (by omega) (by omega) (by omega),setOk_iff.2 ⟨fun x hx=>by have:=r x hx;omega,h⟩]
  rfl
 have hb:s_l2Both xs ys=some true:=by
  unfold s_l2Both
  rw[ok hx rx,Option.bind_some,cond_true,ok hy ry];rfl
 have hL:s_LessOf xs ys=some []:=by
  unfold s_LessOf
  rw[hb,Option.bind_some,Bool.not_true,cond_false]
  obtain⟨s,h1,h2⟩:=cnt_inv (f:=s_LessOf_b0 xs ys) (fun j (s:List Int)=>s=[]) xs.length (s:=[]) rfl (fun j s hj hs'=>by
   subst hs'
   have hxj:xs[j]? =some xs[j]:=List.getElem?_eq_getElem hj
   generalize xs[j]=x at hxj
   unfold s_LessOf_b0
   rw[idx_nat,hxj,Option.bind_some,s_l1Has_eq,decide_eq_true (hs x (List.mem_of_getElem? hxj))]
   exact⟨_,rfl,rfl⟩)
  rw[h1,h2];rfl
 unfold s_PartIn
 rw[hb,Option.bind_some,cond_true,hL];rfl
theorem w6Has_eq {row:List Int}{v:Int}:l_w6Has row v=some (decide (v∈row)):=by
 unfold l_w6Has
 rw[cnt_all0 (f:=l_w6Has_b0 row v) (r:=true) (xs:=row) (fun x=> !(x==v)) rfl (fun i x hx=>by
  unfold l_w6Has_b0
  rw[idx_nat,hx,Option.bind_some]
  cases x==v <;> rfl)]
 by_cases h:v∈row
 · rw[if_neg,decide_eq_true h];rfl
   rw[List.all_eq_true]
   intro hall
   have:=hall v h
   simp at this
 · rw[if_pos,decide_eq_false h];rfl
   rw[List.all_eq_true]
   intro x hx
   simp only[Bool.not_eq_true',beq_eq_false_iff_ne,ne_eq]
   exact fun e=>h (e ▸ hx)
theorem like_refl (x:List Int):l_likeInts x x=some true:=by
 unfold l_likeInts
 rw[bne_self_eq_false,cond_false,cnt_all0 (f:=l_likeInts_b0 x x) (r:=false) (fun _=>true) (xs:=x) rfl (fun i y hy=>by
  unfold l_likeInts_b0
  rw[idx_nat,hy,Option.bind_some,Option.bind_some,bne_self_eq_false];rfl)]
 simp
 rfl
theorem draw_q {b:List Int}(hl:b.length≤4096):∃r,s_DrawEdited b=some r:=by
 obtain⟨h,hn⟩:=new_d (b:=b)
 unfold s_DrawEdited s_l32DrawPair
 rw[hn,Option.bind_some]
 obtain⟨x13,e13,c13⟩:=drawPAny_q hl (h:=h) (i:=0) ⟨by omega,by omega⟩
 rw[e13,Option.bind_some]
 obtain⟨x,e,_⟩:=draw32_q hl (h:=x13.2.2) c13 x13.1
 rw[e]
 exact⟨_,rfl⟩
theorem FnEdit_core {g:Parity}{e:Edit}(hp:parityOk g=true) (he:editOk g e=true):∃(a b:Answer) (r:Answer) (L T:List Int),s_Solved g=some a∧s_Solved (editF g e)=some b∧i_ResolvedBy g a e=some (r,true)∧s_AnswerOk (editF g e) r=some true∧r.Won=b.Won∧i_TouchedBy g e=some T∧i_TurnedBy g e=some L∧s_PartIn L T=some true ∧
 a.Won.length=b.Won.length∧∀v:Nat,v<b.Won.length→((v:Int)∈L↔a.Won[v]?≠b.Won[v]?):=by
 obtain⟨h1,h2,h3,h4,h5⟩:=parityOk_spec hp
 obtain⟨W0,k0,s1,_,_,s4,s5⟩:=Solved_same hp
 have hR:RightA g ⟨wonL g.Prio.length W0,k0⟩:=⟨hp,W0,rfl,s5.len,fun v hv=>by
  obtain⟨x,hx⟩:=idx_some (xs:=k0) hv.1 (by have:=hv.2;have:=s5.len;omega)
  show pkL k0 v= -1∨0≤pkL k0 v
  rw[pkL_eq hx]
  exact s5.pick v x hx,s5.ans⟩
 obtain⟨A,W,k,_,d2,d3,d4,d5,d6,d7,d8,d9,d10,_,d12⟩:=Resolved_ok hR he
 obtain⟨m1,m2⟩:=Right_mix hR d3 d4 d5 d6 d7 d8 d10
 obtain⟨v,v1,_,v3⟩:=AnswerOk_same (editF g e) ⟨mixL A (wonL g.Prio.length W0) (wonL g.Prio.length W),mixL A k0 k⟩
 have hv:v=true:=v3.2 m1
 subst hv
 obtain⟨W',k',t1,_,_,t4,_⟩:=Solved_same d7
 rw[d9]at t1
 have hW:wonL g.Prio.length W=wonL (editF g e).Prio.length W':=congrArg Answer.Won (Option.some.inj t1)
 rw[← hW]at t4
 obtain⟨M,B,_,q2,q3,q4,q5,q6,q7⟩:=touched_same hp he
 have mB:=(Right_mix hR q4 q5 q6 q7 d7 d8 d10).2
 dsimp only at mB
 have hiE:i_ParityOk g=some true:=by rw[i_ParityOk_eq,hp]
 have hiI:i_isEdit g e=some true:=by rw[i_isEdit_eq hp,he]
 have lA:=wonL_len g.Prio.length W0
 have lB:=wonL_len g.Prio.length W
 obtain⟨L,l1,l2,l3,l4⟩:=cnt_pick (f:=i_TurnedBy_b0 (wonL g.Prio.length W0) (wonL g.Prio.length W)) (c:=fun v=>decide ((wonL g.Prio.length W0)[v]?≠(wonL g.Prio.length W)[v]?)) (n:=g.Prio.length) (fun j s hj hs=>by
  have x1:(wonL g.Prio.length W0)[j]? =some ((wonL g.Prio.length W0)[j]'(by omega)):=List.getElem?_eq_getElem (by omega)
  have x2:(wonL g.Prio.length W)[j]? =some ((wonL g.Prio.length W)[j]'(by omega)):=List.getElem?_eq_getElem (by omega)
  generalize(wonL g.Prio.length W0)[j]'(by omega)=x at x1
  generalize(wonL g.Prio.length W)[j]'(by omega)=y at x2
  unfold i_TurnedBy_b0
  rw[idx_nat,idx_nat,x1,x2,Option.bind_some,Option.bind_some,app1 (by omega) rfl]
  by_cases e:x=y
  · subst e;simp
  · rw[show(x !=y)=true from by simpa using e,decide_eq_true (show some x≠some y from fun h=>e (Option.some.inj h))]
    rfl)
 obtain⟨T,y1,y2,y3,y4⟩:=cnt_pick (f:=i_listOf_b0 B) (c:=fun v=>B.getD v false) (n:=B.length) (fun j s hj hs=>by
  have x1:B[j]? =some (B.getD j false):=by rw[List.getD_eq_getElem?_getD,List.getElem?_eq_getElem hj];rfl
  unfold i_listOf_b0
  rw[idx_nat,x1,Option.bind_some,app1 (by omega) rfl]
  cases B.getD j false <;> rfl)
 rw[q4]at y3 y4
 refine⟨_,_,_,L,T,s1,d9,d2,v1,m2,?_,?_,?_,by rw[lA,lB],fun v hv=>?_⟩
 · unfold i_TouchedBy
   rw[hiE,Option.bind_some,Bool.not_true,cond_false,hiI,Option.bind_some,Option.bind_some,Bool.not_true,cond_false,q2,Option.bind_some,q3,Option.bind_some]
   unfold i_listOf
   rw[y1];rfl
 · unfold i_TurnedBy
   rw[hiE,Option.bind_some,Bool.not_true,cond_false,hiI,Option.bind_some,Option.bind_some,Bool.not_true,cond_false,s4,Option.bind_some,d12,Option.bind_some,t4,Option.bind_some,lA,l1];rfl
 · refine partIn_ok (n:=g.Prio.length) (by omega) l2 l3 y2 y3 fun x hx=>?_
   obtain⟨x0,x1⟩:=l3 x hx
   obtain⟨v,rfl⟩:=ex_nat x0
   have hne:=of_decide_eq_true ((l4 v (by omega)).1 hx)
   refine(y4 v (by omega)).2 ?_
   cases hB:B.getD v false with
   | true=>rfl
   | false=>
    exfalso
    refine hne ?_
    have hm:=mixL_get q4 lA lB (v:=(v:Int)) ⟨x0,x1⟩
    have hbA:¬bAt B (v:Int)=true:=fun e=>by
     have:=bAt_get (B:=B) x0 (by omega)
     rw[idx_nat,e]at this
     rw[List.getD_eq_getElem?_getD,this]at hB
     cases hB
    rw[mB,if_neg hbA,idx_nat,idx_nat]at hm
    exact hm.symm
 · rw[lB]at hv
   rw[l4 v hv]
   simp
theorem FnEdit_law {p0:List Int}(ok0:okS U8 p0):l_FnEdit p0=some true:=by
 unfold l_FnEdit l_big
 rw[Option.bind_some]
 by_cases hl:p0.length≤4096
 · rw[decide_eq_false (by omega),cond_false]
   obtain⟨⟨g,e⟩,hr⟩:=draw_q hl
   rw[hr,Option.bind_some]
   dsimp only
   cases hc:parityOk g&&editOk g e with
   | false=>
    obtain⟨a1,a2⟩:=Edited_no hc
    rw[a1,a2];rfl
   | true=>
    rw[Bool.and_eq_true]at hc
    obtain⟨hp,he⟩:=hc
    obtain⟨a1,a2,hp'⟩:=Edited_ok hp he
    obtain⟨u1,u2,u3⟩:=undo_ok hp he
    have b2:=(Edited_ok hp' u2).2.1
    rw[u3]at b2
    obtain⟨a,b,r,L,T,c1,c2,c3,c4,c5,c6,c7,c8,c9,c10⟩:=FnEdit_core hp he
    rw[a1,a2,Option.bind_some,Option.bind_some]
    dsimp only
    rw[bne_self_eq_false,cond_false,Bool.not_true,cond_false,u1,Option.bind_some]
    dsimp only
    rw[b2,Option.bind_some,same_refl hp',Option.bind_some]
    dsimp only
    simp only[Bool.not_true,cond_false,Option.bind_some,same_refl hp,c1,c2,c3,c4,c5,c6,c7,c8,like_refl]
    rw[cnt_all0 (f:=l_FnEdit_b0 a L b) (r:=false) (fun _=>true) (xs:=b.Won) rfl (fun i y hy=>by
     have hi:=(List.getElem?_eq_some_iff.1 hy).1
     have hx:a.Won[i]? =some (a.Won[i]'(by omega)):=List.getElem?_eq_getElem (by omega)
     have hm:=c10 i hi
     unfold l_FnEdit_b0
     rw[idx_nat,hx,Option.bind_some,idx_nat,hy,Option.bind_some,w6Has_eq,Option.bind_some]
     rw[hx,hy]at hm
     generalize a.Won[i]'(by omega)=x at hm
     by_cases e:x=y
     · subst e
       rw[decide_eq_false (fun h=>(hm.1 h) rfl),bne_self_eq_false];rfl
     · rw[decide_eq_true (hm.2 (by simpa using e)),show(x !=y)=true from by simpa using e];rfl)]
    simp
    rfl
 · rw[decide_eq_true (by omega),cond_true]
end Go.Proofs.YtmiilifclnanlaaGreat
