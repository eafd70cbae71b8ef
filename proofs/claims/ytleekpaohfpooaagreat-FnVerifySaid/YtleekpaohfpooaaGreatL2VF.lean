/- The recorded contest: where one comes to. Plain law. -/
import Derived.Test.YtleekpaohfpooaaGreatL1VF
import Derived.Test.YtleekpaohfpooaaGreatL0VF
set_option linter.unusedVariables false
set_option linter.unusedSimpArgs false
open Option renaming bind → bD, bind_some → bG
open List renaming getElem?_eq_getElem → bI, getElem?_eq_some_iff → bJ, replicate → bK, mem_of_getElem? → bL, getElem?_replicate → gs, length_append → zF, mem_singleton → zG, length_nil → zK, mem_append → zN, length_map → zQ
open Bool renaming and_eq_true → n6, not_true → sh
open Int renaming toNat_natCast → zH
namespace Go.Proofs.YtleekpaohfpooaaGreat
open Go Go.Wk Go.Proofs
def atP (P:List Place) (y:Int):Int:=match idx P y with | some v=>v.At | none=> -1
theorem eH {P:List Place}{y:Int}{v:Place}(h:idx P y=some v):atP P y=v.At:=by unfold atP;rw[h]
structure Cx (d:Det) (n m k:Nat) (A:Arena) (P:List Place) (g:Parity) (W:Int->Prop) (pk:List Int):Prop where
 n1:1<=n
 n48:n<=48
 m1:1<=m
 m4:m<=4
 k1:1<=k
 k4:k<=4
 dl:d.Next.length=n
 cell:∀row∈d.Next,RowIn (n:Int) ((m * k:Nat):Int) row
 con:ConA d n m k A
 rg:RecG A d.Pairs ⟨0,firstR d.Pairs.length⟩ P g
 ok:dA g=true
 sol:Solv g W pk
section
variable {d:Det}{n m k:Nat}{A:Arena}{P:List Place}{g:Parity}{W:Int->Prop}{pk:List Int}(h:Cx d n m k A P g W pk)
include h
theorem Cx.len:g.Prio.length=P.length/\g.Arena.Owner.length=P.length/\g.Arena.Next.length=P.length/\P.length<=256/\1<=P.length/\pk.length=P.length:=by
 have r:=h.rg.game
 have h1:=r.ol
 have a:=r.nl
 have b:=r.ql
 have c:=h.sol.len
 have d:=(bJ.1 r.zero).1
 exact⟨b,h1,a,h.rg.le,by omega,by omega⟩
theorem Cx.place {x:Int}(hx:Xn P.length x):∃v,idx P x=some v/\0<=v.At/\v.At<((n+n * m:Nat):Int):=by
 obtain⟨v,b,hm⟩:=iH (xs:=P) hx.1 hx.2
 have o:=h.rg.game.inn v hm
 have a:=o.a1
 rw[h.con.ol,zF,List.length_replicate,List.length_replicate]at a
 exact⟨v,b,o.a0,a⟩
theorem Cx.row {x:Int}{v:Place}(a:idx P x=some v):∃r ar rc,idx g.Arena.Next x=some r/\idx A.Next v.At=some ar/\RowP P ar rc r/\idx g.Arena.Owner x=idx A.Owner v.At/\r.length<=16:=by
 obtain⟨k,l⟩:=(eI a)
 obtain⟨i,f⟩:=dy k
 subst f
 rw[bT]at a
 have j:=(bJ.1 a).1
 obtain⟨c,_,r,ar,b,d,e⟩:=h.rg.game.row i v j a
 refine⟨r,ar,_,by rw[bT];exact b,d,e,by rw[bT];exact c,?_⟩
 have:=(fS h.ok).2.2.2.2 i r b
 exact this.2.1
omit h in
theorem om {x y:Int}{r:List Int}(hr:idx g.Arena.Next x=some r):(gI g).E x y↔y∈r:=by
 show y∈fN g.Arena x↔_
 rw[hU hr]
theorem Cx.state {x:Int}{v:Place}(c:idx P x=some v) (hs:v.At<(n:Int)):(gI g).own x=true/\∃(q:Nat) (r:List Int),v.At=(q:Int)/\q<n/\idx g.Arena.Next x=some r/\(∀y∈r,Xn P.length y/\∃i:Nat,i<m/\atP P y=((n+(q * m+i):Nat):Int))/\∀i:Nat,i<m->∃y∈r,atP P y=((n+(q * m+i):Nat):Int):=by
 obtain⟨B,k,p,_⟩:=h.place (x:=x) ⟨(eI c).1,(eI c).2.1⟩
 rw[c]at k
 cases k
 obtain⟨q,j⟩:=dy p
 have a:q<n:=by omega
 obtain⟨r,ar,rc,w,l,o,z,_⟩:=h.row c
 have s:ar=rowQ n m q:=by
  rw[j,bT,h.con.r1 q a]at l
  exact(Option.some.inj l).symm
 subst s
 have t:idx g.Arena.Owner x=some 1:=by
  rw[z,j,bT,h.con.ol,List.getElem?_append_left (by simpa using a),gs,if_pos a]
 refine⟨?_,q,r,j,a,w,λy hy=>?_,λi f=>?_⟩
 · show ownL _ x=true
   unfold ownL
   rw[t];rfl
 · obtain⟨d,u,b,e⟩:=o.to y hy
   have A:=(bJ.1 e).1
   unfold rowQ at b
   obtain⟨i,f,b⟩:=List.mem_map.1 b
   refine⟨⟨d,by omega⟩,i,List.mem_range.1 f,?_⟩
   rw[eH (by rw[cY d];exact e),← b,Nat.add_assoc]
 · obtain⟨y,hy,d,e⟩:=o.has ((n+q * m+i:Nat):Int) (by unfold rowQ;exact List.mem_map.2 ⟨i,List.mem_range.2 f,rfl⟩)
   refine⟨y,hy,?_⟩
   rw[eH (by rw[cY d];exact e),Nat.add_assoc]
theorem Cx.mid {y:Int}(hy:Xn P.length y){q i:Nat}(j:q<n) (hi:i<m) (ha:atP P y=((n+(q * m+i):Nat):Int)):(gI g).own y=false/\∃r,idx g.Arena.Next y=some r/\(∀z∈r,Xn P.length z/\∃o:Nat,o<k/\atP P z=tab d.Next q ((o * m+i:Nat):Int))/\∀o:Nat,o<k->∃z∈r,atP P z=tab d.Next q ((o * m+i:Nat):Int):=by
 obtain⟨v,l,_,_⟩:=h.place hy
 rw[eH l]at ha
 obtain⟨r,ar,rc,C,p,s,D,_⟩:=h.row l
 have A:=ra (n:=n) j hi
 obtain⟨w,E,F,t⟩:=h.con.r0 q i j hi
 have x:ar=w:=by
  rw[ha,bT,E]at p
  exact(Option.some.inj p).symm
 subst x
 have B:idx g.Arena.Owner y=some 0:=by
  rw[D,ha,bT,h.con.ol,List.getElem?_append_right (by simp),List.length_replicate,Nat.add_sub_cancel_left,gs,if_pos A]
 refine⟨?_,r,C,λz f=>?_,λo b=>?_⟩
 · show ownL _ y=false
   unfold ownL
   rw[B];rfl
 · obtain⟨a,u,c,e⟩:=s.to z f
   have hl:=(bJ.1 e).1
   obtain⟨o,b,c⟩:=(t u).1 c
   exact⟨⟨a,by omega⟩,o,b,by rw[eH (by rw[cY a];exact e),c]⟩
 · obtain⟨z,f,a,e⟩:=s.has _ ((t _).2 ⟨o,b,rfl⟩)
   exact⟨z,f,by rw[eH (by rw[cY a];exact e)]⟩
theorem Cx.cellAt {q i o:Nat}(b:q<n) (hi:i<m) (a:o<k):∃row,idx d.Next (q:Int)=some row/\idx row ((o * m+i:Nat):Int)=some (tab d.Next q ((o * m+i:Nat):Int))/\0<=tab d.Next q ((o * m+i:Nat):Int)/\tab d.Next q ((o * m+i:Nat):Int)<(n:Int):=
 pP h.m1 h.m4 h.dl h.cell b hi a
theorem Cx.mine {x:Int}(hx:Xn P.length x) (c:(gI g).own x=wB W x):∃y,idx pk x=some y/\Xn P.length y/\(gI g).E x y/\wB W y=wB W x:=by
 obtain⟨d,_,_,_,_,e⟩:=h.len
 have ha:=h.sol.ans
 rw[d]at ha
 obtain⟨a1,a2,a,b⟩:=ha.mine x hx c
 obtain⟨y,hy,_⟩:=iH (xs:=pk) hx.1 (by have:=hx.2;omega)
 rw[oX hy]at a1 a2 a b
 exact⟨y,hy,a,a2,b⟩
theorem Cx.yours {x y:Int}(hx:Xn P.length x) (b:¬(gI g).own x=wB W x) (a:(gI g).E x y) (hy:Xn P.length y):wB W y=wB W x:=by
 obtain⟨c,_⟩:=h.len
 have ha:=h.sol.ans
 rw[c]at ha
 exact ha.yours x y hx b a hy
end
def toP (P:List Place) (r:List Int) (z:Int):Option Nat:=r.findIdx? λy=>atP P y==z
theorem xq {P:List Place}{r:List Int}{z:Int}(h:∃y∈r,atP P y=z):∃j y,toP P r z=some j/\r[j]? =some y/\atP P y=z:=by
 obtain⟨y,hy,e⟩:=h
 cases a:toP P r z with
 | none=>
  unfold toP at a
  rw[List.findIdx?_eq_none_iff]at a
  have:=a y hy
  simp[e]at this
 | some j=>
  unfold toP at a
  obtain⟨h1,b,_⟩:=List.findIdx?_eq_some_iff_getElem.1 a
  exact⟨j,r[j],rfl,bI h1,by simpa using b⟩
def tgt (P:List Place) (r:List Int) (z:Int):Int:=match toP P r z with | some j=>r.getD j 0 | none=> -1
theorem uQ {P:List Place}{r:List Int}{z:Int}(h:∃y∈r,atP P y=z):tgt P r z∈r/\atP P (tgt P r z)=z/\∃j:Nat,toP P r z=some j/\r[j]? =some (tgt P r z):=by
 obtain⟨j,y,h1,a,b⟩:=xq h
 have e:tgt P r z=y:=by
  unfold tgt
  rw[h1]
  show r.getD j 0=y
  rw[List.getD_eq_getElem?_getD,a];rfl
 rw[e]
 exact⟨bL a,b,j,h1,a⟩
def dL (f:Nat->Int) (F:List Int):Nat->List Int×List Int
 | 0=>(F,[])
 | j+1=>(addN (dL f F j).1 (f j),(dL f F j).2++[gi (addN (dL f F j).1 (f j)) (f j)])
theorem ru {F:List Int}{t:Int}(h:t∈F):0<=gi F t/\gi F t<(F.length:Int):=by
 unfold gi
 cases a:F.findIdx? (λx=>t==x) with
 | none=>
  rw[List.findIdx?_eq_none_iff]at a
  have:=a t h
  simp at this
 | some i=>
  obtain⟨h1,_⟩:=List.findIdx?_eq_some_iff_getElem.1 a
  dsimp only
  omega
theorem sU {F:List Int}{t:Int}:t∈addN F t:=by
 unfold addN
 by_cases h:t∈F
 · rw[if_pos h];exact h
 · rw[if_neg h];simp
theorem wo {F:List Int}{t x:Int}(h:x∈addN F t):x∈F\/x=t:=by
 unfold addN at h
 by_cases ht:t∈F
 · rw[if_pos ht]at h;exact .inl h
 · rw[if_neg ht]at h;simpa using h
structure NmRow (N:Nat) (F:List Int) (j:Nat) (Q:Int->Prop) (F' row:List Int):Prop where
 nm:Names N F'
 pre:∀(i:Nat) v,F[i]? =some v->F'[i]? =some v
 len:F.length<=F'.length
 le:F'.length<=F.length+j
 rl:row.length=j
 rin:∀x∈row,0<=x/\x<(F'.length:Int)
 all:∀x∈F',Q x
theorem tA {N:Nat}{F:List Int}{Q:Int->Prop}(a:Names N F) (b:∀x∈F,Q x){f:Nat->Int}{c:Nat}(d:∀j,j<c->0<=f j/\f j<(N:Int)/\Q (f j)):∀j,j<=c->NmRow N F j Q (dL f F j).1 (dL f F j).2
 | 0,_=>⟨a,λ_ _ h=>h,Nat.le_refl _,Nat.le_refl _,rfl,λx hx=>(by cases hx),b⟩
 | j+1,hj=>by
  have r:=tA a b d j (by omega)
  obtain⟨e,g,k⟩:=d j (by omega)
  unfold dL
  generalize dL f F j=G at *
  obtain⟨a1,a2⟩:=r.nm.add e g
  have n:G.1.length<=(addN G.1 (f j)).length/\(addN G.1 (f j)).length<=G.1.length+1:=by
   unfold addN
   by_cases h:f j∈G.1
   · rw[if_pos h];omega
   · rw[if_neg h,zF];simp
  have h1:=r.len
  have m:=r.le
  have hm:=ru (sU (F:=G.1) (t:=f j))
  refine⟨a1,λi v l=>a2 i v (r.pre i v l),by dsimp only;omega,by dsimp only;omega,by simp[r.rl],λx hx=>?_,λx hx=>?_⟩
  · rcases zN.1 hx with hx | hx
    · have:=r.rin x hx
      dsimp only;omega
    · rw[zG.1 hx];exact hm
  · rcases wo hx with hx | hx
    · exact r.all x hx
    · rw[hx];exact k
end Go.Proofs.YtleekpaohfpooaaGreat
set_option linter.unusedVariables false
set_option linter.unusedSimpArgs false
namespace Go.Proofs.YtleekpaohfpooaaGreat
open Go Go.Wk Go.Proofs
end Go.Proofs.YtleekpaohfpooaaGreat
set_option linter.unusedVariables false
set_option linter.unusedSimpArgs false
namespace Go.Proofs.YtleekpaohfpooaaGreat
open Go Go.Wk Go.Proofs
open Classical in
theorem zB {g:Parity}{n:Nat}(h:GOk g n) (hr:∀v r,idx g.Arena.Next v=some r->r≠[]):∃W,jX g=some (wonL n W)/\Par.Sol (gI g) (λv=>0<=v/\v<n) false W:=by
 have hn:=h.n256
 have o:=qi h hr
 obtain⟨P,t,u⟩:=vz h
 have b:=xG h P
 have a:In (bK n true)=λv:Int=>0<=v/\v<n:=funext λv=>propext (yz v)
 obtain⟨R,y,z,d⟩:=yy (h.wfS u (k:=bK n (-1)) (by simp)) h.pri n (bK n true) (2 ^ 64) (by simp) (by rw[a,b];exact o) (by have:=mj (bK n true);simp at this;exact this) (by omega)
 rw[b,a]at d
 obtain⟨W,hW⟩:∃W:Int->Prop,W=In R:=⟨_,rfl⟩
 have q:∀v,In R v↔W v:=λv=>by rw[hW]
 refine⟨W,?_,by rw[hW];exact d⟩
 unfold jX
 rw[t,bG,yB h,bG,y,bG,z]
 obtain⟨s,h1,l,m⟩:=cJ (f:=lj R) (λj (s:List Int)=>s.length=j/\∀i:Nat,i<j->s[i]? =some (b2i (decide (¬W (i:Int))))) n (s:=[]) ⟨rfl,λi c=>absurd c (Nat.not_lt_zero i)⟩ (λj s hj ⟨w,x⟩=>by
  unfold lj
  rw[eG (B:=R) (by omega) (by omega),bG]
  have p:jt (decide (In R (j:Int)))=some (b2i (decide (In R (j:Int)))):=by
   unfold jt
   cases decide (In R (j:Int)) <;> rfl
  rw[p,bG,qY,app1 (by omega) rfl,bG]
  refine⟨_,rfl,by rw[zF];simp;omega,λi c=>?_⟩
  by_cases e:i<j
  · rw[List.getElem?_append_left (by omega)];exact x i e
  · have:i=j:=by omega
    subst this
    rw[List.getElem?_append_right (by omega),w,Nat.sub_self]
    show some _=some _
    congr 2
    rw[← decide_not]
    exact decide_eq_decide.2 (not_congr (q _)))
 rw[h1,bG,ca,yr l m]
section
variable {g:Parity}{n:Nat}(hp:dA g=true) (hn:n=g.Prio.length){W:Int->Prop}(hW:Par.Sol (gI g) (Xn n) false W)
include hp hn hW
theorem yp (F:jX g=some (wonL n W)):∃k,kT g (bK n (-1))=some (⟨wonL n W,k⟩,true)/\k.length=n/\(∀v x,idx k v=some x->x= -1\/0<=x)/\Par.Ans (gI g) (Xn n) (wB W) (pkL k):=by
 have h:=GOk.of hp
 rw[← hn]at h
 have H:=h.n256
 have ae:=qD n W
 obtain⟨P,af,ag⟩:=vz h
 obtain⟨B0,c1,c2,L⟩:=tX (W:=W) H false
 obtain⟨B1,q,M,N⟩:=tX (W:=W) H true
 have c1:gQ (wonL n W) 0=some B0:=c1
 have q:gQ (wonL n W) 1=some B1:=q
 unfold kT
 rw[um hp hn F (by omega),bG,F,af,List.length_replicate]
 simp only[sh,cond_false,bG,List.nil_append,List.length_replicate,ae]
 obtain⟨ap,O,Q⟩:=cJ (f:=iu g (bK n (-1)) (wonL n W)) (λj (s:List Int)=>s=bK n (-1)) n (s:=bK n (-1)) rfl (λj s hj hs=>by
  subst hs
  have hk:idx (bK n (-1:Int)) (j:Int)=some (-1):=by rw[bT,gs,if_pos hj]
  unfold iu
  rw[hk]
  simp only[bG,show((-1:Int) != -1)=false from rfl,cond_false]
  rw[xk (by simp;omega),bG]
  refine⟨_,rfl,?_⟩
  apply List.ext_getElem?
  intro i
  rw[List.getElem?_set]
  simp only[gs,List.length_replicate]
  split
  · rename_i e;subst e;rw[if_pos hj]
  · rfl)
 subst Q
 rw[O,bG,ca,c1,bG,q,bG]
 obtain⟨s,R,S,T,al,U,V⟩:=cJ (f:=iv g (wonL n W) ⟨g.Arena.Owner,g.Prio,g.Arena.Next,P,bK n (-1)⟩ B0 B1) (λj (s:List Int)=>s.length=n/\Par.PInv (gI g) (Xn n) (wB W) (pkL s)/\(∀i:Nat,j<=i->pkL s i= -1)/\(∀v,Xn n v->v<j->(gI g).own v=wB W v->0<=pkL s v)/\(∀v x,idx s v=some x->x= -1\/0<=x)) n (s:=bK n (-1)) ⟨by simp,Par.PInv.start hW (λv _=>xr) (λv=>by rw[ob];decide),λi _=>ob _,λv b hj=>by have:=b.1;omega,λv x hx=> .inl (by rw[← oX hx];exact ob v)⟩ (λj s hj ⟨m,o,p,D,E⟩=>by
  have b:Xn n (j:Int):=⟨by omega,by omega⟩
  have G:=oD m b.1 b.2
  rw[p j (Nat.le_refl j)]at G
  unfold iv
  rw[G,qC b,vo h b]
  simp only[bG,show decide ((0:Int)<= -1)=false from rfl,cond_false]
  by_cases d:(gI g).own (j:Int)=wB W (j:Int)
  · -- a pick
    obtain⟨row,hr⟩:=cT (xs:=g.Arena.Next) (i:=(j:Int)) (by omega) (by have:=h.ln;omega)
    obtain⟨u,ah,aq,ai,aj⟩:=o.ex b d (by rw[p j (Nat.le_refl j)];decide)
    obtain⟨i,u,h1,t,X⟩:=tf (row:=row) (C:=λu=>wB W u=wB W (j:Int)/\Par.Dom (Par.pickG (gI g) (Par.updF (pkL s) j u)) (Par.Rg (Xn n) (wB W) (wB W j)) (wB W j) (Par.Rg (Xn n) (wB W) (wB W j))) ⟨u,by have:u∈fN g.Arena j:=ah;rwa [hU hr]at this,ai,aj⟩
    have I:(gI g).E (j:Int) u:=by show u∈fN g.Arena j;rw[hU hr];exact bL h1
    have w:=(zq h I).2
    obtain⟨B,Y,Z,aa⟩:∃B,(bif (b2i (wB W (j:Int))==1) then some B1 else some B0)=some B/\B.length=n/\In B=Par.Rg (Xn n) (wB W) (wB W j):=by
     cases am:wB W (j:Int) with
     | true=>exact⟨B1,rfl,M,N⟩
     | false=>exact⟨B0,rfl,c2,L⟩
    obtain⟨k',k1,K,l⟩:=zl hp hn ag m o b d hr h1 t X Z aa
    have r:(b2i (wB W (j:Int)) !=b2i ((gI g).own (j:Int)))=false:=by rw[d];simp
    obtain⟨ao,ac⟩:=cT (xs:=k') (i:=(j:Int)) (by omega) (by omega)
    obtain⟨z,J,an⟩:=eu (xs:=k') (i:=(j:Int)) u (by omega) (by omega)
    have:z=k':=yb (n:=n) (by omega) K (by rw[vq J,l,rI])
    subst this
    rw[r,cond_false,Y,bG,k1,bG]
    dsimp only
    rw[ac,bG,J,bG]
    refine⟨_,rfl,K,?_,λA ab=>?_,λv y ad c=>?_,λv x hx=>?_⟩
    · rw[l];exact o.step b d I w t.1 t.2
    · rw[l]
      unfold Par.updF
      rw[if_neg (by omega)]
      exact p A (by omega)
    · rw[l]
      unfold Par.updF
      by_cases e:v=j
      · rw[if_pos e];exact w.1
      · rw[if_neg e];exact D v y (by omega) c
    · have:=oX hx
      rw[l]at this
      unfold Par.updF at this
      by_cases e:v=j
      · rw[if_pos e]at this;rw[← this];exact .inr w.1
      · rw[if_neg e]at this
        obtain⟨ak,ar⟩:=dq hx
        have hs:=oD m ak (by omega)
        rw[this]at hs
        exact E v x hs
  · have r:(b2i (wB W (j:Int)) !=b2i ((gI g).own (j:Int)))=true:=by
     unfold bne;rw[uU]
     cases hx:wB W (j:Int) <;> cases hy:(gI g).own (j:Int) <;> simp_all
    rw[r,cond_true]
    refine⟨_,rfl,m,o,λA ab=>p A (by omega),λv y ad c=>?_,E⟩
    have:v≠j:=λe=>d (by rw[← e];exact c)
    exact D v y (by omega) c)
 rw[R,bG,ca]
 exact⟨s,rfl,S,V,T.ans λv b c=>U v b b.2 c⟩
end
theorem wm {g:Parity}(hp:dA g=true):∃W k,lV g=some ⟨wonL g.Prio.length W,k⟩/\jX g=some (wonL g.Prio.length W)/\Solv g W k:=by
 have h:=GOk.of hp
 obtain⟨W,a1,a⟩:=zB h (rE hp)
 obtain⟨k,k1,b,c,d⟩:=yp hp rfl a a1
 refine⟨W,k,?_,a1,a,b,c,d⟩
 unfold lV
 rw[nR,hp,bG,sh,cond_false,tR h.n256,bG,k1];rfl
end Go.Proofs.YtleekpaohfpooaaGreat
set_option linter.unusedVariables false
set_option linter.unusedSimpArgs false
namespace Go.Proofs.YtleekpaohfpooaaGreat
open Go Go.Wk Go.Proofs
section
variable {p:Sig}{d:Det}(hs:sigOk p=true){n m k:Nat}(hn:n<=48) (hn1:1<=n) (hm:pw p.In=(m:Int)) (hk:pw p.Out=(k:Int)) (hd:d.Next.length=n) (hD:∀row∈d.Next,RowIn (n:Int) ((m * k:Nat):Int) row)
include hs hn hm hk hd hD
omit hs hk hD in
theorem tc:cntM (fb d (m:Int)) n 0 ([],[])=some (.inr (bK n 1,(List.range n).map (rowQ n m))):=by
 have l:=eR p.In
 have hr:rng (m:Int)=some ():=by unfold rng;rw[if_pos (by omega)]
 have b:∀q:Nat,q<n->cntM (fc d (m:Int) q) m 0 []=some (.inr (rowQ n m q)):=λq k=>by
  have hb:q * m<=48 * 4:=Nat.mul_le_mul (by omega) (by omega)
  have e:(q:Int) * (m:Int)=((q * m:Nat):Int):=by simp
  have g:∀j:Nat,j<m->IntKind.i64.wrap (IntKind.i64.wrap ((d.Next.length:Int)+IntKind.i64.wrap ((q:Int) * (m:Int)))+(j:Int))=((n+q * m+j:Nat):Int):=λj hj=>by
   rw[e,wr' (z:=((q * m:Nat):Int)) (by omega) (by omega),wr' (z:=(d.Next.length:Int)+((q * m:Nat):Int)) (by omega) (by omega),wr' (by omega) (by omega)]
   omega
  have hl:∀j:Nat,((List.range j).map λi=>((n+q * m+i:Nat):Int)).length=j:=λj=>by rw[zQ,List.length_range]
  obtain⟨s,h1,a⟩:=cJ (f:=fc d (m:Int) q) (λj s=>s=(List.range j).map λi=>((n+q * m+i:Nat):Int)) m (s:=[]) rfl (λj s hj e=>by
   subst e
   unfold fc
   rw[g j hj,app1 (by rw[hl];omega) rfl]
   exact⟨_,rfl,by rw[List.range_succ,List.map_append];rfl⟩)
  rw[h1,a];rfl
 have c:Int.toNat ((m:Int)-0)=m:=by omega
 obtain⟨s,h1,a⟩:=cJ (f:=fb d (m:Int)) (λj s=>s=(bK j 1,(List.range j).map (rowQ n m))) n (s:=([],[])) rfl (λj s hj e=>by
  subst e
  unfold fb
  dsimp only
  rw[hr,bG,c,b j hj,bG,ca,app1 (by simp;omega) rfl,bG,app1 (by simp;omega) rfl,bG]
  exact⟨_,rfl,by rw[List.replicate_succ',List.range_succ,List.map_append];rfl⟩)
 rw[h1,a]
theorem rQ:∃s,cntM (fd p d (m:Int)) n 0 (bK n 1,(List.range n).map (rowQ n m))=some (.inr s)/\ConR d n m k (n * m) s:=by
 have N:=eR p.In
 have k1:=eR p.Out
 have hr:rng (m:Int)=some ():=by unfold rng;rw[if_pos (by omega)]
 have C:Int.toNat ((m:Int)-0)=m:=by omega
 have K:n * m<=48 * 4:=Nat.mul_le_mul hn (by omega)
 obtain⟨s,h1,B⟩:=cJ (f:=fd p d (m:Int)) (λq s=>ConR d n m k (q * m) s) n (s:=(bK n 1,(List.range n).map (rowQ n m))) (by rw[Nat.zero_mul];exact⟨by simp,[],by simp,rfl,λq i _ _ h=>absurd h (Nat.not_lt_zero _)⟩) (λq s o g=>by
  obtain⟨H,y,A⟩:=cJ (f:=ff p d q) (λi s=>ConR d n m k (q * m+i) s) m (s:=s) g (λi s j g=>by
   obtain⟨c1,R,c2,c,v⟩:=g
   obtain⟨r,F,G⟩:=yn hs hm hk hd hD o j
   have I:=ra (n:=n) o j
   have L:s.1.length=n+(q * m+i):=by rw[c1];simp
   have M:s.2.length=n+(q * m+i):=by rw[c2];simp[c]
   unfold ff
   rw[app1 (xs:=s.1) (by omega) rfl,F]
   simp only[bG]
   rw[app1 (xs:=s.2) (by omega) rfl]
   refine⟨_,rfl,?_,R++[r],?_,by rw[zF,c];rfl,λu t D l J=>?_⟩
   · dsimp only
     rw[c1,← Nat.add_assoc,List.replicate_succ',List.append_assoc]
   · dsimp only
     rw[c2,List.append_assoc]
   · by_cases e:u * m+t=q * m+i
     · obtain⟨w,x⟩:=yE l j e
       subst w x
       exact⟨r,by rw[← c];simp,G⟩
     · obtain⟨E,a,b⟩:=v u t D l (by omega)
       exact⟨E,by rw[List.getElem?_append_left (by omega)];exact a,b⟩)
  unfold fd
  rw[hr,bG,C]
  have z:cntM (ff p d q) m 0 (s.1,s.2)=some (.inr H):=y
  rw[z,bG,ca]
  exact⟨_,rfl,by rw[Nat.add_mul,Nat.one_mul];exact A⟩)
 exact⟨s,h1,B⟩
end
theorem td {ps:List Pair}(hl:ps.length<=4) (hb:∀x∈ps,x.Ask.length<=1000000000/\x.Give.length<=1000000000) (X:Det) (g:X.Pairs=ps):cntM (fg X) ps.length 0 []=some (.inr ps):=by
 obtain⟨s,h1,d⟩:=cJ (f:=fg X) (λj s=>s=ps.take j) ps.length (s:=[]) rfl (λj s hj e=>by
  subst e
  have hx:ps[j]? =some ps[j]:=bI hj
  generalize ps[j]=x at hx
  obtain⟨b,c⟩:=hb x (bL hx)
  have a:∀{xs:List Int},xs.length<=1000000000->dw xs=some xs:=λ{xs} h=>by
   unfold dw
   rw[appL (by rw[zK];omega) rfl];rfl
  unfold fg
  rw[g,bT,hx,bG,bG,a b,bG,a c,bG,app1 (by rw[List.length_take];omega) rfl]
  exact⟨_,rfl,by rw[List.take_add_one,hx];rfl⟩)
 rw[h1,d,List.take_length]
theorem vF {p:Sig}{d:Det}(hs:sigOk p=true) (hd:detOk p d=true):∃(n m k:Nat) (A:Arena),d.Next.length=n/\pw p.In=(m:Int)/\pw p.Out=(k:Int)/\1<=n/\n<=48/\1<=m/\m<=4/\1<=k/\k<=4/\(∀row∈d.Next,RowIn (n:Int) ((m * k:Nat):Int) row)/\(∀x∈d.Pairs,x.Ask.length<=1000000000/\x.Give.length<=1000000000)/\ConA d n m k A/\iV p d=some (A,d.Pairs,true):=by
 obtain⟨h1,b,l,o⟩:=dC hd
 have y:=eR p.In
 have k1:=eR p.Out
 obtain⟨m,hm⟩:=dy (z:=pw p.In) (by omega)
 obtain⟨k,hk⟩:=dy (z:=pw p.Out) (by omega)
 have hb:∀x∈d.Pairs,x.Ask.length<=1000000000/\x.Give.length<=1000000000:=λx hx=>by
  have c:=hd
  unfold detOk at c
  simp only[n6]at c
  have hp:=c.1.2
  unfold pairsOk at hp
  rw[n6,List.all_eq_true]at hp
  have:=hp.2 x hx
  unfold pairOk at this
  rw[n6]at this
  have a1:=(St.of this.1).len
  have a2:=(St.of this.2).len
  omega
 have hD:∀row∈d.Next,RowIn (d.Next.length:Int) ((m * k:Nat):Int) row:=λrow hr=>by
  have:=o row hr
  unfold ltd at this
  rw[hm,hk]at this
  simpa using this
 have j:=tc b hm rfl
 obtain⟨s,w,c1,R,c2,f,g⟩:=rQ hs b hm hk rfl hD
 have t:=td l hb d rfl
 refine⟨d.Next.length,m,k,⟨s.1,s.2⟩,rfl,hm,hk,h1,b,by omega,by omega,by omega,by omega,hD,hb,⟨c1,?_,λq a=>?_,λq i a e=>?_⟩,?_⟩
 · show s.2.length=_
   rw[c2];simp[f]
 · show s.2[q]? =_
   rw[c2,List.getElem?_append_left (by simpa using a),List.getElem?_map,List.getElem?_range a];rfl
 · obtain⟨r,u,v⟩:=g q i a e (ra a e)
   refine⟨r,?_,v⟩
   show s.2[_]? =_
   rw[c2,List.getElem?_append_right (by simp),zQ,List.length_range,Nat.add_sub_cancel_left]
   exact u
 · unfold iV
   rw[iW hs hb,hd,bG,sh,cond_false,nc hs,bG,hm,j,bG,ca]
   dsimp only
   rw[w,bG,ca,t];rfl
end Go.Proofs.YtleekpaohfpooaaGreat
set_option linter.unusedVariables false
set_option linter.unusedSimpArgs false
namespace Go.Proofs.YtleekpaohfpooaaGreat
open Go Go.Wk Go.Proofs
section
variable {a:Arena}{ps:List Pair}{st:Place}(ha:fx a=true) (hk:ps.length<=4)
include ha hk
theorem uz (A:VOk a.Owner.length ps.length st):(cu (eM a ps) (2 ^ 64) ([st],0,[],[],[])=some (.inl noRec)/\ManyP a.Owner.length ps.length) \/
 ∃s:List Place×Int×List Int×List (List Int)×List Int,cu (eM a ps) (2 ^ 64) ([st],0,[],[],[])=some (.inr s)/\RecG a ps st s.1 ⟨⟨s.2.2.1,s.2.2.2.1⟩,s.2.2.2.2⟩:=by
 obtain⟨_,_,_,_,n⟩:=qX ha
 obtain⟨o,w1,e⟩:=cZ (f:=eM a ps) (λi s=>s.2.1=(i:Int)/\RecS a ps st s.1 i s.2.2.1 s.2.2.2.1 s.2.2.2.2/\s.1.length<=256) (λr=>r=noRec/\ManyP a.Owner.length ps.length)
  (λs=>RecG a ps st s.1 ⟨⟨s.2.2.1,s.2.2.2.1⟩,s.2.2.2.2⟩) 256 (λi s ⟨l,b,hl⟩=>by
  obtain⟨P,z,O,N,Q⟩:=s
  dsimp only at l b hl
  subst l
  unfold eM
  dsimp only
  by_cases u:i<P.length
  · have d:P[i]? =some P[i]:=bI u
    generalize P[i]=v at d
    have c:=b.inn v (bL d)
    obtain⟨ar,X,har,m,W,B,q,t⟩:=n v.At c.a0 c.a1
    have V:=c.rl
    have w:=yO (ps:=ps) (rc:=v.Record) c.rin (by omega) v.At
    have y:=yS (ps:=ps) (rc:=v.Record) c.rin (by omega) v.At
    have U:=tx ps v.At c.rl c.rin
    obtain⟨C,J,K⟩:=zn (a:=a) (v:=v) (ar:=ar) (rc:=jE ps v.Record v.At) (P:=P) har B (by omega) hl
    have x:=uE (ar:=ar) (rc:=jE ps v.Record v.At) (P:=P) (iN q)
    have E:=nF (kyR ar (jE ps v.Record v.At)) P ar.length
    have hrl:=E.rl
    obtain⟨S,F,G,H,I⟩:=xm x (by omega)
    have g:=b.step d har t m G (by rw[H,hrl]) I
    have L:=b.ol
    have M:=b.nl
    have R:=b.ql
    rw[decide_eq_true (show(i:Int)<(P.length:Int) by omega),cond_true,bT,d,bG,w,bG,J,bG]
    match C,K with
    | .inl r,⟨j,k⟩=>
     subst j
     exact⟨_,rfl,rfl,_,k,g.nod,g.inn⟩
    | .inr s,⟨j,k,D⟩=>
     rw[ca,j,k,m,bG]
     rw[app1 (xs:=O) (by omega) rfl,bG,F,bG,app1 (xs:=N) (by omega) rfl,bG,y,bG,app1 (xs:=Q) (by omega) rfl,bG,wr' (by omega) (by omega)]
     exact⟨_,rfl,by omega,by dsimp only;omega,g,D⟩
  · rw[decide_eq_false (show ¬(i:Int)<(P.length:Int) by omega),cond_false]
    have T:=b.il
    have:i=P.length:=by omega
    subst this
    exact⟨_,rfl,b,hl⟩) (2 ^ 64) 0 ([st],0,[],[],[]) (by omega) ⟨rfl,RecS.init A,by simp⟩ (by omega)
 match o,e with
 | .inl r,e=>exact .inl ⟨by rw[w1,e.1],e.2⟩
 | .inr s,p=>exact .inr ⟨s,w1,p⟩
end
theorem ud {a:Arena}{ps:List Pair}{st:Int}(ha:fx a=true) (hp:pairsOk ps (a.Owner.length:Int)=true) (hb:∀x∈ps,x.Ask.length<=1000000000/\x.Give.length<=1000000000) (h0:0<=st) (h1:st<(a.Owner.length:Int)):
 (iJ a ps st=some noRec/\ManyP a.Owner.length ps.length)\/∃P g,RecG a ps ⟨st,firstR ps.length⟩ P g/\dA g=true/\iJ a ps st=some (g,P,true):=by
 obtain⟨m,n,j,k,_⟩:=qX ha
 have hk:ps.length<=4:=by
  unfold pairsOk at hp
  rw[n6,decide_eq_true_eq]at hp
  omega
 have c:cntM eK ps.length 0 []=some (.inr (firstR ps.length)):=(xF ps.length).resolve_right (by omega)
 have f:VOk a.Owner.length ps.length ⟨st,firstR ps.length⟩:=⟨h0,h1,by unfold firstR;rw[zQ,List.length_range],λx hx=>by
  unfold firstR at hx
  obtain⟨i,d,e⟩:=List.mem_map.1 hx
  have:=List.mem_range.1 d
  have e:(i:Int)=x:=e
  omega,rR _⟩
 unfold iJ
 rw[oG,ha,bG,sh,cond_false,nQ (by omega) (by omega) hb,hp,bG,bG,sh,cond_false,dj,wr' (by omega) (by omega),decide_eq_true h0,decide_eq_true (show st<=(a.Owner.length:Int)-1 by omega),Bool.and_self,bG,bG,sh,cond_false,c,bG,ca]
 rcases uz ha hk f with ⟨w1,l⟩ | ⟨s,w1,b⟩
 · left
   rw[w1]
   exact⟨rfl,l⟩
 · right
   rw[w1]
   exact⟨s.1,_,b,b.ok ha k j hk,rfl⟩
end Go.Proofs.YtleekpaohfpooaaGreat
set_option linter.unusedVariables false
set_option linter.unusedSimpArgs false
namespace Go.Proofs.YtleekpaohfpooaaGreat
open Go Go.Wk Go.Proofs
section
variable {xs:List Pair}{n:Int}(h0:0<=n) (h1:n<=256) (hb:∀x∈xs,x.Ask.length<=1000000000/\x.Give.length<=1000000000)
include h0 h1 hb
end
end Go.Proofs.YtleekpaohfpooaaGreat
set_option linter.unusedVariables false
set_option linter.unusedSimpArgs false
namespace Go.Proofs.YtleekpaohfpooaaGreat
open Go Go.Wk Go.Proofs
section
variable {p:Sig}{d:Det}(hs:sigOk p=true) (hb:∀x∈d.Pairs,x.Ask.length<=1000000000/\x.Give.length<=1000000000)
include hs hb
end
end Go.Proofs.YtleekpaohfpooaaGreat
set_option linter.unusedVariables false
set_option linter.unusedSimpArgs false
namespace Go.Proofs.YtleekpaohfpooaaGreat
open Go Go.Wk Go.Proofs
def outsL (d:Det) (m k q i:Nat) (z:Int):List Int:=((List.range k).filter λo=>tab d.Next q ((o * m+i:Nat):Int)==z).map Int.ofNat
def outF (d:Det) (m k q i:Nat) (z:Int):Int:=(outsL d m k q i z).getD 0 0
theorem vW (d:Det) (m k q i:Nat) (z:Int):(outsL d m k q i z).length<=k:=by
 unfold outsL
 rw[zQ]
 exact Nat.le_trans (List.length_filter_le ..) (by rw[List.length_range];exact Nat.le_refl _)
theorem uv (d:Det) (m j q i:Nat) (z:Int):outsL d m (j+1) q i z=outsL d m j q i z++(if(tab d.Next q ((j * m+i:Nat):Int)==z)=true then[(j:Int)] else[]):=by
 unfold outsL
 rw[List.range_succ,List.filter_append,List.map_append]
 congr 1
 rw[List.filter_cons,List.filter_nil]
 cases tab d.Next q ((j * m+i:Nat):Int)==z <;> rfl
theorem xZ {d:Det}{m k q i o:Nat}{z:Int}(b:o<k) (h:z=tab d.Next q ((o * m+i:Nat):Int)):idx (outsL d m k q i z) 0=some (outF d m k q i z)/\0<=outF d m k q i z/\outF d m k q i z<(k:Int):=by
 have hm:(o:Int)∈outsL d m k q i z:=List.mem_map.2 ⟨o,List.mem_filter.2 ⟨List.mem_range.2 b,by simp[h]⟩,rfl⟩
 have hl:=List.length_pos_of_mem hm
 have hx:(outsL d m k q i z)[0]? =some ((outsL d m k q i z)[0]'hl):=bI hl
 have e:outF d m k q i z=(outsL d m k q i z)[0]'hl:=by
  unfold outF
  rw[List.getD_eq_getElem?_getD,hx];rfl
 rw[e]
 refine⟨by rw[show(0:Int)=((0:Nat):Int) from rfl,bT];exact hx,?_⟩
 have:=List.getElem_mem hl
 generalize(outsL d m k q i z)[0]'hl=y at this
 unfold outsL at this
 obtain⟨c,h1,a⟩:=List.mem_map.1 this
 have:=List.mem_range.1 (List.mem_filter.1 h1).1
 have a:(c:Int)=y:=a
 omega
theorem wj {P:List Place}{r:List Int}{z:Int}{j:Nat}(h:toP P r z=some j):r[j]? =some (tgt P r z)/\atP P (tgt P r z)=z/\∀(i:Nat) y,i<j->r[i]? =some y->atP P y≠z:=by
 have b:=h
 unfold toP at h
 obtain⟨h1,c,d⟩:=List.findIdx?_eq_some_iff_getElem.1 h
 have e:tgt P r z=r[j]:=by
  unfold tgt
  rw[b]
  show r.getD j 0=_
  rw[List.getD_eq_getElem?_getD,bI h1];rfl
 rw[e]
 refine⟨bI h1,by simpa using c,λi y f hy=>?_⟩
 have:=d i f
 obtain⟨hl,a⟩:=bJ.1 hy
 rw[a]at this
 simpa using this
theorem nB (f:Nat->Int) (F:List Int):∀j,F.length<=(dL f F j).1.length/\(dL f F j).1.length<=F.length+j/\(dL f F j).2.length=j
 | 0=>⟨Nat.le_refl _,Nat.le_refl _,rfl⟩
 | j+1=>by
  obtain⟨a,b,c⟩:=nB f F j
  have h:(dL f F j).1.length<=(addN (dL f F j).1 (f j)).length/\(addN (dL f F j).1 (f j)).length<=(dL f F j).1.length+1:=by
   unfold addN
   split
   · omega
   · rw[zF];simp
  refine⟨?_,?_,?_⟩
  · show _<=(addN _ _).length;omega
  · show(addN _ _).length<=_;omega
  · show((dL f F j).2++[_]).length=_;rw[zF,c];rfl
def fM (pk:List Int) (P:List Place) (r:List Int) (n m q:Nat) (i:Nat):Int:=pkL pk (tgt P r ((n+(q * m+i):Nat):Int))
def oM (d:Det) (pk:List Int) (P:List Place) (r:List Int) (n m k q:Nat) (i:Nat):Int:=outF d m k q i (atP P (fM pk P r n m q i))
theorem lS (f:Nat->Int) (F:List Int){i:Nat}{v:Int}(a:F[i]? =some v):∀j,(dL f F j).1[i]? =some v
 | 0=>a
 | j+1=>by
  have h:=lS f F a j
  show(addN _ _)[i]? =_
  unfold addN
  split
  · exact h
  · rw[List.getElem?_append_left (bJ.1 h).1];exact h
structure Mkr (N m k:Nat) (Q:Int->Prop) (F:List Int) (i:Nat) (Nx Ou:List (List Int)):Prop where
 nm:Names N F
 all:∀x∈F,Q x
 zero:F[0]? =some 0
 nxl:Nx.length=i
 oul:Ou.length=i
 nxr:∀row∈Nx,row.length=m/\∀x∈row,0<=x/\x<(F.length:Int)
 our:∀row∈Ou,row.length=m/\∀x∈row,0<=x/\x<(k:Int)
def itM (d:Det) (n m k:Nat) (P:List Place) (g:Parity) (pk:List Int):Nat->List Int×List (List Int)×List (List Int)
 | 0=>([0],[],[])
 | j+1=>
  ((dL (fM pk P (fN g.Arena ((itM d n m k P g pk j).1.getD j 0)) n m (atP P ((itM d n m k P g pk j).1.getD j 0)).toNat) (itM d n m k P g pk j).1 m).1,
   (itM d n m k P g pk j).2.1++[(dL (fM pk P (fN g.Arena ((itM d n m k P g pk j).1.getD j 0)) n m (atP P ((itM d n m k P g pk j).1.getD j 0)).toNat) (itM d n m k P g pk j).1 m).2],
   (itM d n m k P g pk j).2.2++[(List.range m).map (oM d pk P (fN g.Arena ((itM d n m k P g pk j).1.getD j 0)) n m k (atP P ((itM d n m k P g pk j).1.getD j 0)).toNat)])
section
variable {d:Det}{n m k:Nat}{A:Arena}{P:List Place}{g:Parity}{W:Int->Prop}{pk:List Int}(h:Cx d n m k A P g W pk)
include h
theorem rb {x:Int}{v:Place}(c:idx P x=some v) (ha:v.At<(n:Int)) (p:wB W x=false):∃(q:Nat) (r:List Int),v.At=(q:Int)/\q<n/\idx g.Arena.Next x=some r/\r.length<=16/\(∀y∈r,Xn P.length y)/\∀i:Nat,i<m ->
 ∃j y u,toP P r ((n+(q * m+i):Nat):Int)=some j/\r[j]? =some y/\tgt P r ((n+(q * m+i):Nat):Int)=y/\(∃z∈r,atP P z=((n+(q * m+i):Nat):Int))/\idx pk y=some (fM pk P r n m q i)/\idx P (fM pk P r n m q i)=some u/\u.At=atP P (fM pk P r n m q i) /\
  (0<=fM pk P r n m q i/\fM pk P r n m q i<(P.length:Int)/\(wB W (fM pk P r n m q i)=false/\atP P (fM pk P r n m q i)<(n:Int)))/\idx (outsL d m k q i u.At) 0=some (oM d pk P r n m k q i)/\0<=oM d pk P r n m k q i/\oM d pk P r n m k q i<(k:Int):=by
 have R:Xn P.length x:=⟨(eI c).1,(eI c).2.1⟩
 obtain⟨L,q,r,Q,e,f,B,t⟩:=h.state c ha
 obtain⟨r',_,_,A,_,_,_,hl⟩:=h.row c
 rw[f]at A
 cases A
 refine⟨q,r,Q,e,f,hl,λy hy=>(B y hy).1,λi b=>?_⟩
 obtain⟨H,T,j,U,V⟩:=uQ (t i b)
 generalize hy:tgt P r ((n+(q * m+i):Nat):Int)=y at *
 have s:=(B y H).1
 have G:wB W y=wB W x:=h.yours R (by rw[L,p];simp) ((om f).2 H) s
 obtain⟨S,X,M,K,_⟩:=h.mid s e b T
 obtain⟨to,D,l,N,O⟩:=h.mine s (by rw[S,G,p])
 have a:fM pk P r n m q i=to:=by
  unfold fM
  rw[hy,oX D]
 obtain⟨_,o,w,C⟩:=K to ((om M).1 N)
 obtain⟨u,E,_,_⟩:=h.place l
 have F:u.At=atP P to:=(eH E).symm
 obtain⟨_,_,_,_,I⟩:=h.cellAt e b w
 have J:=xZ (d:=d) (m:=m) (k:=k) (q:=q) (i:=i) (z:=atP P to) w C
 refine⟨j,y,u,U,V,rfl,t i b,by rw[a];exact D,by rw[a];exact E,by rw[a];exact F,by rw[a];exact⟨l.1,l.2,by rw[O,G,p],by rw[C];exact I⟩,?_⟩
 unfold oM
 rw[a,F]
 exact J
end
theorem wJ (d:Det) (n m k:Nat) (P:List Place) (g:Parity) (pk:List Int):∀{i j:Nat},i<=j->(itM d n m k P g pk i).1.length<=(itM d n m k P g pk j).1.length:=by
 intro i j a
 induction a with
 | refl=>exact Nat.le_refl _
 | step _ b=>exact Nat.le_trans b (nB _ _ _).1
section
variable {d:Det}{n m k:Nat}{A:Arena}{P:List Place}{g:Parity}{W:Int->Prop}{pk:List Int}(h:Cx d n m k A P g W pk)
include h
variable (h0:wB W 0=false)
include h0
theorem g8:∀j:Nat,(∀i,i<j->i<(itM d n m k P g pk i).1.length)->Mkr P.length m k (λx=>wB W x=false/\atP P x<(n:Int)) (itM d n m k P g pk j).1 j (itM d n m k P g pk j).2.1 (itM d n m k P g pk j).2.2
 | 0,_=>by
  obtain⟨_,_,_,_,L,_⟩:=h.len
  have G:=h.rg.game.zero
  have H:atP P 0<(n:Int):=by
   rw[eH (v:=⟨0,firstR d.Pairs.length⟩) (by rw[show(0:Int)=((0:Nat):Int) from rfl,bT];exact G)]
   have:=h.n1
   show(0:Int)<_
   omega
  refine⟨⟨by show[(0:Int)].Nodup;simp,λx hx=>?_⟩,λx hx=>?_,rfl,rfl,rfl,λx hx=>(by cases hx),λx hx=>(by cases hx)⟩
  · rw[zG.1 hx];omega
  · rw[zG.1 hx];exact⟨h0,H⟩
 | j+1,hj=>by
  have a:=g8 j λi o=>hj i (by omega)
  have u:=hj j (by omega)
  unfold itM
  generalize itM d n m k P g pk j=s at *
  obtain⟨F,Nx,Ou⟩:=s
  dsimp only at a u ⊢
  have hx:F[j]? =some F[j]:=bI u
  have D:F.getD j 0=F[j]:=by rw[List.getD_eq_getElem?_getD,hx];rfl
  rw[D]
  generalize F[j]=x at hx
  have A:=bL hx
  obtain⟨E,z⟩:=a.all x A
  obtain⟨v,w,_,_⟩:=h.place (x:=x) (a.nm.2 x A)
  rw[eH w]at z ⊢
  obtain⟨q,r,K,O,hr,hrl,M,t⟩:=rb h w z E
  rw[hU hr,show v.At.toNat=q by omega]
  have l:=tA (N:=P.length) (F:=F) (Q:=λx=>wB W x=false/\atP P x<(n:Int)) a.nm a.all (f:=fM pk P r n m q) (c:=m) (λi o=>by
   obtain⟨_,_,_,_,_,_,_,_,_,_,J,_⟩:=t i o
   exact J) m (Nat.le_refl _)
  have hl:=l.len
  refine⟨l.nm,l.all,l.pre 0 _ a.zero,by rw[zF,a.nxl];rfl,by rw[zF,a.oul];rfl,λrow p=>?_,λrow p=>?_⟩
  · rcases zN.1 p with b | b
    · obtain⟨B,C⟩:=a.nxr row b
      exact⟨B,λx hx=>by have:=C x hx;omega⟩
    · rw[zG.1 b]
      exact⟨l.rl,l.rin⟩
  · rcases zN.1 p with b | b
    · exact a.our row b
    · rw[zG.1 b]
      refine⟨by rw[zQ,List.length_range],λy hy=>?_⟩
      obtain⟨i,o,e⟩:=List.mem_map.1 hy
      obtain⟨_,_,_,_,_,_,_,_,_,_,_,_,I⟩:=t i (List.mem_range.1 o)
      rw[← e];exact I
end
end Go.Proofs.YtleekpaohfpooaaGreat
set_option linter.unusedVariables false
set_option linter.unusedSimpArgs false
namespace Go.Proofs.YtleekpaohfpooaaGreat
open Go Go.Wk Go.Proofs
theorem zg {g:Parity}{P:List Place}{x:Int}{r:List Int}(hr:idx g.Arena.Next x=some r) (hl:r.length<=16) (b:∀y∈r,Xn P.length y){z:Int}(h:∃y∈r,atP P y=z):oK g P x z=some (tgt P r z):=by
 obtain⟨_,_,j,hj,_⟩:=uQ h
 obtain⟨c,d,i⟩:=wj hj
 have hjl:=(bJ.1 c).1
 unfold oK
 obtain⟨o,w1,k⟩:=cZ (f:=kY g P x z) (λq (s:Int)=>s=(q:Int)/\q<=j) (λy=>y=tgt P r z) (λ_=>False) j (λq s ⟨e,l⟩=>by
  subst e
  have hy:r[q]? =some (r[q]'(by omega)):=bI (by omega)
  generalize r[q]'(by omega)=y at hy
  obtain⟨v,a,_⟩:=iH (xs:=P) (b y (bL hy)).1 (b y (bL hy)).2
  unfold kY
  rw[hr,bG,decide_eq_true (show(q:Int)<(r.length:Int) by omega),cond_true,bG,bT,hy,bG,a,bG]
  by_cases e:q=j
  · subst e
    rw[c]at hy
    cases hy
    rw[eH a]at d
    rw[show(v.At==z)=true from by simpa using d]
    exact⟨_,rfl,rfl⟩
  · have:=i q y (by omega) hy
    rw[eH a]at this
    rw[show(v.At==z)=false from by simpa using this,cond_false,wr' (by omega) (by omega)]
    exact⟨_,rfl,by omega,by omega,by omega⟩) (2 ^ 64) 0 0 (by omega) ⟨rfl,Nat.zero_le _⟩ (by omega)
 match o,k with
 | .inl y,e=>rw[w1,e];rfl
theorem ut {F:List Int}(t:Int) (hl:F.length<=1000):(bif decide (gi F t<0) then bD (appS 8 F [t]) λx=>some x else some F)=some (addN F t):=by
 by_cases h:t∈F
 · rw[decide_eq_false (by have:=(ru h).1;omega),cond_false]
   unfold addN
   rw[if_pos h]
 · rw[rv h,decide_eq_true (by omega),cond_true,app1 (by omega) rfl]
   unfold addN
   rw[if_neg h];rfl
section
variable {p:Sig}(hs:sigOk p=true){d:Det}(hd:detOk p d=true) (hpb:∀x∈d.Pairs,x.Ask.length<=1000000000/\x.Give.length<=1000000000){n m k:Nat}{A:Arena}{P:List Place}{g:Parity}{W:Int->Prop}{pk wn:List Int}(h:Cx d n m k A P g W pk) (hm:pw p.In=(m:Int)) (hk:pw p.Out=(k:Int))
include hs hd hpb h hm hk
omit hk in
theorem xj {q i:Nat}(c:q<n) (hi:i<m):kU p d q i=some (((n+(q * m+i):Nat):Int)):=by
 have b:=h.n48
 have a:=h.m4
 have g:=ra (n:=n) c hi
 have j:n * m<=48 * 4:=Nat.mul_le_mul b a
 have e:(q:Int) * (m:Int)=((q * m:Nat):Int):=by simp
 have f:ec p=some (m:Int):=by rw[nc hs,hm]
 unfold kU
 rw[iW hs hpb,hd,bG,sh,cond_false,h.dl,wr' (z:=(n:Int)-1) (by omega) (by omega),dj,decide_eq_true (show(0:Int)<=(q:Int) by omega),decide_eq_true (show(q:Int)<=(n:Int)-1 by omega),Bool.and_self,bG,bG,sh,cond_false,f,bG,wr' (z:=(m:Int)-1) (by omega) (by omega),dj,decide_eq_true (show(-1:Int)<=(i:Int) by omega),decide_eq_true (show(i:Int)<=(m:Int)-1 by omega),Bool.and_self,bG,bG,sh,cond_false,show((i:Int)== -1)=false from by rw[beq_eq_false_iff_ne];omega,cond_false,bG,e,wr' (z:=((q * m:Nat):Int)) (by omega) (by omega),wr' (z:=(n:Int)+((q * m:Nat):Int)) (by omega) (by omega),wr' (by omega) (by omega)]
 congr 1
 omega
theorem zk {q i:Nat}(g:q<n) (hi:i<m) (z:Int):j8 p d q i z=some (outsL d m k q i z):=by
 have y:=h.n48
 have w:=h.m4
 have v:=h.k4
 have l:ec p=some (m:Int):=by rw[nc hs,hm]
 unfold j8
 rw[iW hs hpb,hd,bG,sh,cond_false,h.dl,wr' (z:=(n:Int)-1) (by omega) (by omega),dj,decide_eq_true (show(0:Int)<=(q:Int) by omega),decide_eq_true (show(q:Int)<=(n:Int)-1 by omega),Bool.and_self,bG,bG,sh,cond_false,l,bG,wr' (z:=(m:Int)-1) (by omega) (by omega),dj,decide_eq_true (show(0:Int)<=(i:Int) by omega),decide_eq_true (show(i:Int)<=(m:Int)-1 by omega),Bool.and_self,bG,bG,sh,cond_false]
 obtain⟨o,w1,u⟩:=cZ (f:=gH p d q i z) (λj (s:List Int×Int)=>s=(outsL d m j q i z,(j:Int))/\j<=k) (λ_=>False) (λs=>s.1=outsL d m k q i z) k (λj s ⟨e,hj⟩=>by
  subst e
  have hl:=vW d m j q i z
  unfold gH
  rw[dc (dN hs).2,hk,bG]
  dsimp only
  by_cases b:j<k
  · obtain⟨row,r,t,_⟩:=h.cellAt g hi b
    have c:=m0 hs (x:=(i:Int)) (o:=(j:Int)) (by omega) (by omega) (by omega) (by omega)
    have e:(j:Int) * (m:Int)+(i:Int)=((j * m+i:Nat):Int):=by simp
    rw[hm,e]at c
    rw[decide_eq_true (show(j:Int)<(k:Int) by omega),cond_true,r,bG,c,bG,t,bG]
    have a:=uv d m j q i z
    cases hc:tab d.Next q ((j * m+i:Nat):Int)==z with
    | true=>
     rw[hc,if_pos rfl]at a
     rw[cond_true,app1 (by omega) rfl,bG,bG,wr' (by omega) (by omega)]
     exact⟨_,rfl,b,by rw[a];rfl,by omega⟩
    | false=>
     rw[hc,if_neg (by simp),List.append_nil]at a
     rw[cond_false,bG,wr' (by omega) (by omega)]
     exact⟨_,rfl,b,by rw[a];rfl,by omega⟩
  · have:j=k:=by omega
    subst this
    rw[decide_eq_false (show ¬((j:Nat):Int)<(j:Int) by omega),cond_false]
    exact⟨_,rfl,rfl⟩) (2 ^ 64) 0 ([],0) (by omega) ⟨rfl,Nat.zero_le _⟩ (by omega)
 match o,u with
 | .inr s,e=>rw[w1,bG,ca,e]
end
end Go.Proofs.YtleekpaohfpooaaGreat
set_option linter.unusedVariables false
set_option linter.unusedSimpArgs false
namespace Go.Proofs.YtleekpaohfpooaaGreat
open Go Go.Wk Go.Proofs
def stM (d:Det) (n m k:Nat) (P:List Place) (g:Parity) (pk:List Int) (j:Nat):List Int×Int×List (List Int)×List (List Int):=((itM d n m k P g pk j).1,(j:Int),(itM d n m k P g pk j).2.1,(itM d n m k P g pk j).2.2)
section
variable {d:Det}{n m k:Nat}{A:Arena}{P:List Place}{g:Parity}{W:Int->Prop}{pk:List Int}(h:Cx d n m k A P g W pk) (h0:wB W 0=false)
include h h0
theorem xN {j:Nat}(hj:∀i,i<j->i<(itM d n m k P g pk i).1.length) (e:j<(itM d n m k P g pk j).1.length):∃x v q r,(itM d n m k P g pk j).1[j]? =some x/\idx P x=some v/\v.At=((q:Nat):Int)/\q<n/\wB W x=false/\idx g.Arena.Next x=some r/\(itM d n m k P g pk j).1.length<=256 /\
 stM d n m k P g pk (j+1)=((dL (fM pk P r n m q) (itM d n m k P g pk j).1 m).1,((j+1:Nat):Int),(itM d n m k P g pk j).2.1++[(dL (fM pk P r n m q) (itM d n m k P g pk j).1 m).2],(itM d n m k P g pk j).2.2++[(List.range m).map (oM d pk P r n m k q)]):=by
 obtain⟨_,_,_,w,_,_⟩:=h.len
 have a:=g8 h h0 j hj
 have u:=a.nm.len
 have hx:(itM d n m k P g pk j).1[j]? =some ((itM d n m k P g pk j).1[j]):=bI e
 have s:(itM d n m k P g pk j).1.getD j 0=(itM d n m k P g pk j).1[j]:=by rw[List.getD_eq_getElem?_getD,hx];rfl
 have l:=List.getElem_mem e
 obtain⟨o,f⟩:=a.all _ l
 obtain⟨v,b,_,_⟩:=h.place (a.nm.2 _ l)
 have c:=eH b
 rw[c]at f
 obtain⟨q,r,p,t,hr,_⟩:=rb h b f o
 refine⟨_,v,q,r,hx,b,p,t,o,hr,by omega,?_⟩
 unfold stM
 rw[show itM d n m k P g pk (j+1)=((dL (fM pk P (fN g.Arena ((itM d n m k P g pk j).1.getD j 0)) n m (atP P ((itM d n m k P g pk j).1.getD j 0)).toNat) (itM d n m k P g pk j).1 m).1,(itM d n m k P g pk j).2.1++[(dL (fM pk P (fN g.Arena ((itM d n m k P g pk j).1.getD j 0)) n m (atP P ((itM d n m k P g pk j).1.getD j 0)).toNat) (itM d n m k P g pk j).1 m).2],(itM d n m k P g pk j).2.2++[(List.range m).map (oM d pk P (fN g.Arena ((itM d n m k P g pk j).1.getD j 0)) n m k (atP P ((itM d n m k P g pk j).1.getD j 0)).toNat)]) from rfl]
 rw[s,hU hr,c,show v.At.toNat=q by omega]
theorem yM {u:Type}{f:List Int×Int×List (List Int)×List (List Int)->Option (u⊕((List Int×Int×List (List Int)×List (List Int))⊕(List Int×Int×List (List Int)×List (List Int))))}(l:∀j,(∀i,i<j->i<(itM d n m k P g pk i).1.length)->f (stM d n m k P g pk j)=some (if j<(itM d n m k P g pk j).1.length then .inr (.inr (stM d n m k P g pk (j+1))) else .inr (.inl (stM d n m k P g pk j)))):
 ∃j:Nat,(∀i,i<j->i<(itM d n m k P g pk i).1.length)/\j=(itM d n m k P g pk j).1.length/\cu f (2 ^ 64) ([0],0,[],[])=some (.inr (stM d n m k P g pk j)):=by
 obtain⟨_,_,_,w,_,_⟩:=h.len
 obtain⟨o,w1,t⟩:=cZ (f:=f) (λj s=>s=stM d n m k P g pk j/\∀i,i<j->i<(itM d n m k P g pk i).1.length) (λ_=>False)
  (λs=>∃j:Nat,s=stM d n m k P g pk j/\(∀i,i<j->i<(itM d n m k P g pk i).1.length)/\j=(itM d n m k P g pk j).1.length) 256 (λj s ⟨e,hj⟩=>by
  subst e
  have v:=(g8 h h0 j hj).nm.len
  by_cases c:j<(itM d n m k P g pk j).1.length
  · rw[l j hj,if_pos c]
    refine⟨_,rfl,by omega,rfl,λi p=>?_⟩
    by_cases e:i=j
    · subst e;exact c
    · exact hj i (by omega)
  · rw[l j hj,if_neg c]
    refine⟨_,rfl,j,rfl,hj,?_⟩
    cases j with
    | zero=>exact absurd (by show 0 < [(0:Int)].length;simp) c
    | succ j=>
     have a:=hj j (by omega)
     have b:=wJ d n m k P g pk (show j<=j+1 by omega)
     omega) (2 ^ 64) 0 ([0],0,[],[]) (by omega) ⟨rfl,λi p=>absurd p (Nat.not_lt_zero i)⟩ (by omega)
 match o,t with
 | .inr s,⟨j,e,q,r⟩=>exact⟨j,q,r,by rw[w1,e]⟩
end
end Go.Proofs.YtleekpaohfpooaaGreat
set_option linter.unusedVariables false
set_option linter.unusedSimpArgs false
namespace Go.Proofs.YtleekpaohfpooaaGreat
open Go Go.Wk Go.Proofs
section
variable {p:Sig}(hs:sigOk p=true){d:Det}(hd:detOk p d=true) (hpb:∀x∈d.Pairs,x.Ask.length<=1000000000/\x.Give.length<=1000000000){n m k:Nat}{A:Arena}{P:List Place}{g:Parity}{W:Int->Prop}{pk:List Int}(h:Cx d n m k A P g W pk) (hm:pw p.In=(m:Int)) (hk:pw p.Out=(k:Int)) (h0:wB W 0=false) (hsm:∀j,(∀i,i<j->i<(itM d n m k P g pk i).1.length)->(itM d n m k P g pk j).1.length<=48)
include h hs hd hpb hm hk h0 hsm
theorem zj:∃j:Nat,(∀i,i<j->i<(itM d n m k P g pk i).1.length)/\j=(itM d n m k P g pk j).1.length/\cu (jy p d g P pk) (2 ^ 64) ([0],0,[],[])=some (.inr (stM d n m k P g pk j)):=by
 have X:=h.m4
 refine yM h h0 λj hj=>?_
 have b:=g8 h h0 j hj
 have c:=b.nxl
 have U:=b.oul
 have V:=b.nm.len
 have W:=h.len.2.2.2.1
 unfold jy
 by_cases a:j<(itM d n m k P g pk j).1.length
 · have A:=hsm (j+1) λi E=>by
    by_cases e:i=j
    · subst e;exact a
    · exact hj i (by omega)
   obtain⟨x,v,q,r,hx,z,H,w,J,hr,hl,t⟩:=xN h h0 hj a
   obtain⟨K,r',T,_,l,hrl,C,D⟩:=rb h z (by omega) J
   have:q=K:=by omega
   subst this
   rw[hr]at l
   cases l
   have G:∀j:Nat,((List.range j).map (oM d pk P r n m k q)).length=j:=λj=>by rw[zQ,List.length_range]
   rw[if_pos a,t]
   have B:(itM d n m k P g pk (j+1)).1=(dL (fM pk P r n m q) (itM d n m k P g pk j).1 m).1:=congrArg Prod.fst t
   rw[B]at A
   unfold stM
   generalize itM d n m k P g pk j=S at *
   obtain⟨F,Nx,Ou⟩:=S
   dsimp only at *
   obtain⟨e,I⟩:∃e,cu (ie p d g P pk (F,(j:Int),Nx,Ou) v) (2 ^ 64) (F,[],[],0)=some (.inr ((dL (fM pk P r n m q) F m).1,(dL (fM pk P r n m q) F m).2,(List.range m).map (oM d pk P r n m k q),e)):=by
    obtain⟨o,w1,R⟩:=cZ (f:=ie p d g P pk (F,(j:Int),Nx,Ou) v) (λj (s:List Int×List Int×List Int×Int)=>s=((dL (fM pk P r n m q) F j).1,(dL (fM pk P r n m q) F j).2,(List.range j).map (oM d pk P r n m k q),(j:Int))/\j<=m) (λ_=>False) (λs=>∃e,s=((dL (fM pk P r n m q) F m).1,(dL (fM pk P r n m q) F m).2,(List.range m).map (oM d pk P r n m k q),e)) m (λi s ⟨e,E⟩=>by
     subst e
     obtain⟨Z,aa,ab⟩:=nB (fM pk P r n m q) F i
     unfold ie eF
     dsimp only
     rw[dc (dN hs).1,hm,bG,bG]
     by_cases a:i<m
     · obtain⟨Y,y,u,ac,ad,L,M,N,O,ae,af,Q,_⟩:=D i a
       rw[decide_eq_true (show(i:Int)<(m:Int) by omega),cond_true,bT,lS _ _ hx,bG,H,xj hs hd hpb h hm w a,bG,zg hr hrl C M,L,bG,N,bG,ib,bG,ut _ (by omega),bG,ib,bG,app1 (by omega) rfl,bG,O,bG,zk hs hd hpb h hm hk w a,bG,Q,bG,app1 (by rw[G];omega) rfl,bG,wr' (by omega) (by omega)]
       exact⟨_,rfl,a,by rw[List.range_succ,List.map_append];rfl,by omega⟩
     · have:i=m:=by omega
       subst this
       rw[decide_eq_false (show ¬((i:Nat):Int)<(i:Int) by omega),cond_false]
       exact⟨_,rfl,_,rfl⟩) (2 ^ 64) 0 (F,[],[],0) (by omega) ⟨rfl,Nat.zero_le _⟩ (by omega)
    match o,R with
    | .inr s,⟨e,c⟩=>exact⟨e,by rw[w1,c]⟩
   rw[decide_eq_true (show(j:Int)<(F.length:Int) by omega),cond_true,bT,hx,bG,z,bG,I,bG,ca]
   dsimp only
   rw[decide_eq_false (by omega),cond_false,app1 (by omega) rfl,bG,app1 (by omega) rfl,bG,wr' (by omega) (by omega)]
   rfl
 · unfold stM
   dsimp only
   rw[decide_eq_false (by omega),cond_false,if_neg a]
end
end Go.Proofs.YtleekpaohfpooaaGreat
set_option linter.unusedVariables false
set_option linter.unusedSimpArgs false
namespace Go.Proofs.YtleekpaohfpooaaGreat
open Go Go.Wk Go.Proofs
def mst (c:Clause) (q x:Int):Int:=monNext c.Kind q (decide (x∈c.A)) (decide (x∈c.B))
theorem xo {a n:Nat}{f:Int->Int->Int}{q x:Int}(b:0<=q) (d:q<a) (c:0<=x) (e:x<n):tab ((numsN a).map λq=>(numsN n).map λx=>f q x) q x=f q x:=by
 obtain⟨q,rfl⟩:=dy b
 obtain⟨x,rfl⟩:=dy c
 unfold tab numsN
 rw[zH,zH]
 simp[List.getD_eq_getElem?_getD,List.getElem?_range (show q<a by omega),List.getElem?_range (show x<n by omega)]
theorem xU {c:Clause}{n:Nat}{q x:Int}(a:0<=q) (b:q<monStates c.Kind) (d:0<=x) (e:x<n):tab (monD c n).Next q x=mst c q x:=
 xo (f:=λq x=>mst c q x) a b d e
structure Sm (n:Nat) (D:Det) (c:Clause) (i:Nat) (π:Int->Int):Prop where
 zero:π 0=0
 rng:∀r:Int,0<=r->r<D.Next.length->0<=π r/\π r<monStates c.Kind
 step:∀r x:Int,0<=r->r<D.Next.length->0<=x->x<n->π (tab D.Next r x)=mst c (π r) x
 pair:∃pr,D.Pairs[i]? =some pr/\∀r:Int,0<=r->r<D.Next.length->((r∈pr.Ask↔π r∈(monPair c.Kind).Ask)/\(r∈pr.Give↔π r∈(monPair c.Kind).Give))
def keyAt (K:List Key) (r:Int):Key:=(K[r.toNat]?).getD (0,0)
theorem jI {K:List Key}{r:Int}(a:0<=r) (b:r<K.length):K[r.toNat]? =some (keyAt K r):=by
 have h:K[r.toNat]? =some (K[r.toNat]'(by omega)):=bI (by omega)
 unfold keyAt
 rw[h];rfl
theorem oY {part:Key->Int}{K:List Key}{S:List Int}{r:Int}(c:0<=r) (d:r<K.length):r∈plK part K S K.length↔part (keyAt K r)∈S:=by
 rw[pF]
 have hk:=jI c d
 constructor
 · rintro⟨i,h1,e,v,a,b⟩
   have:r.toNat=i:=by omega
   rw[this,a]at hk
   cases hk
   exact b
 · intro h
   exact⟨r.toNat,by omega,by omega,_,hk,h⟩
theorem oR {b:Key->Int->Key}{k:Nat}{K:List Key}{R:List (List Int)}(h:Prod b k K K.length R){r x:Int}(g:0<=r) (i:r<K.length) (j:0<=x) (p:x<k):0<=tab R r x/\tab R r x<K.length/\keyAt K (tab R r x)=b (keyAt K r) x:=by
 have hrl:=h.rl
 have hr:R[r.toNat]? =some (R[r.toNat]'(by omega)):=bI (by omega)
 obtain⟨_,v,d,e⟩:=h.row _ _ hr
 obtain⟨x,rfl⟩:=dy j
 obtain⟨y,m,n,c⟩:=e x (by omega)
 have a:=jI g i
 rw[d]at a
 have f:v=keyAt K r:=Option.some.inj a
 have ht:tab R r (x:Int)=y:=by
  unfold tab
  rw[List.getD_eq_getElem?_getD (l:=R),hr,Option.getD_some,List.getD_eq_getElem?_getD,zH,m,Option.getD_some]
 have o:=(bJ.1 c).1
 rw[ht]
 refine⟨n,by omega,?_⟩
 rw[← f]
 unfold keyAt
 rw[c];rfl
theorem PR.len {n:Nat}{cs:List Clause}{D:Det}(h:PR n cs D):D.Pairs.length=cs.length:=by
 induction h with
 | nil=>rfl
 | @snoc cs c D K R hp k a=>
  show(D.Pairs.map _++[_]).length=_
  rw[zF,zQ,zF,a];rfl
theorem PR.sm {p:Sig}{n:Nat}(hn:ltd p=n):∀{cs:List Clause}{D:Det},PR n cs D->(∀c∈cs,cQ p c=true)->∀(i:Nat) c,cs[i]? =some c->∃π,Sm n D c i π:=λ{cs D} h=>by
 induction h with
 | nil=>intro _ i c hc;simp at hc
 | @snoc cs d D K R hp k C=>
  intro B i c hc
  have e:(jD D (monD d n) K R).Next=R:=rfl
  have H:R.length=K.length:=k.prod.rl
  have m:(jD D (monD d n) K R).Pairs=D.Pairs.map (plP (·.1) K)++(monD d n).Pairs.map (plP (·.2) K):=rfl
  have y:D.Pairs.length=cs.length:=hp.len
  have t:keyAt K 0=(0,0):=by
   unfold keyAt
   rw[show(0:Int).toNat=0 from rfl,k.prod.zero];rfl
  have f:∀r:Int,0<=r->r<R.length->0<=(keyAt K r).1/\(keyAt K r).1<D.Next.length/\0<=(keyAt K r).2/\(keyAt K r).2<(monD d n).Next.length:=λr a b=>
   k.kin _ (bL (jI a (by omega)))
  have q:(monD d n).Next.length=monStates d.Kind:=by
   show((numsN _).map _).length=_
   rw[zQ,iT]
  by_cases A:i<cs.length
  · rw[List.getElem?_append_left A]at hc
    obtain⟨π,s⟩:=C (λc hc=>B c (List.mem_append_left _ hc)) i c hc
    refine⟨λr=>π (keyAt K r).1,⟨by show π (keyAt K 0).1=0;rw[t];exact s.zero,λr a b=>?_,λr x a b j l=>?_,?_⟩⟩
    · obtain⟨a1,a2,_,_⟩:=f r a b
      exact s.rng _ a1 a2
    · obtain⟨a1,a2,_,_⟩:=f r a b
      have ht:=(oR k.prod a (by rw[e]at b;omega) j l).2.2
      rw[e]
      show π (keyAt K (tab R r x)).1=_
      rw[ht]
      exact s.step _ x a1 a2 j l
    · obtain⟨G,E,F⟩:=s.pair
      refine⟨plP (·.1) K G,?_,λr a b=>?_⟩
      · rw[m,List.getElem?_append_left (by rw[zQ];omega),List.getElem?_map,E];rfl
      · obtain⟨a1,a2,_,_⟩:=f r a b
        have g:r<K.length:=by rw[e]at b;omega
        obtain⟨u,v⟩:=F _ a1 a2
        exact⟨(oY a g).trans u,(oY a g).trans v⟩
  · have o:=(bJ.1 hc).1
    rw[zF]at o
    simp only[List.length_cons,zK]at o
    have w:i=cs.length:=by omega
    subst w
    have z:c=d:=by simp at hc;exact hc.symm
    subst z
    refine⟨λr=>(keyAt K r).2,⟨by show(keyAt K 0).2=0;rw[t],λr a b=>?_,λr x a b j l=>?_,?_⟩⟩
    · obtain⟨_,_,a1,a2⟩:=f r a b
      rw[q]at a2
      exact⟨a1,a2⟩
    · obtain⟨_,_,a1,a2⟩:=f r a b
      rw[q]at a2
      have ht:=(oR k.prod a (by rw[e]at b;omega) j l).2.2
      rw[e]
      show(keyAt K (tab R r x)).2=_
      rw[ht]
      exact xU a1 a2 j l
    · refine⟨plP (·.2) K (monPair c.Kind),?_,λr a b=>?_⟩
      · rw[m,List.getElem?_append_right (by rw[zQ];omega),zQ,y,Nat.sub_self];rfl
      · have g:r<K.length:=by rw[e]at b;omega
        exact⟨oY a g,oY a g⟩
end Go.Proofs.YtleekpaohfpooaaGreat
set_option linter.unusedVariables false
set_option linter.unusedSimpArgs false
namespace Go.Proofs.YtleekpaohfpooaaGreat
open Go Go.Wk Go.Proofs
structure Stq (p:Sig) (cs:List Clause) (d:Det) (n m k:Nat) (A:Arena) (P:List Place) (g:Parity) (W:Int->Prop) (pk:List Int):Prop where
 det:detOk p d=true
 im:pw p.In=(m:Int)
 ok:pw p.Out=(k:Int)
 cx:Cx d n m k A P g W pk
 prd:∃N:Nat,ltd p=N/\PR N cs d
end Go.Proofs.YtleekpaohfpooaaGreat
set_option linter.unusedVariables false
set_option linter.unusedSimpArgs false
namespace Go.Proofs.YtleekpaohfpooaaGreat
open Go Go.Wk Go.Proofs
theorem yc {k:Nat}(hk:k<=2){n:Nat}{u v:Place}(f:VOk n k u) (g:VOk n k v) (h:u.At=v.At) (e:u.Record.headD 0=v.Record.headD 0):u=v:=by
 obtain⟨a,r⟩:=u
 obtain⟨b,s⟩:=v
 dsimp only at h e
 subst h
 have c:=f.rl
 have d:=g.rl
 have i:=f.rin
 have j:=g.rin
 have l:=f.nd
 have m:=g.nd
 dsimp only at c d i j l m
 congr 1
 match r,s with
 | [],[]=>rfl
 | [],_::_=>simp at c d;omega
 | _::_,[]=>simp at c d;omega
 | [x],[y]=>simp at e;rw[e]
 | [x],_::_::_=>simp at c d;omega
 | _::_::_,[y]=>simp at c d;omega
 | [x,x'],[y,y']=>
  simp at e l m
  have a1:=i x (by simp)
  have a2:=i x' (by simp)
  have o:=j y' (by simp)
  have:x'=y':=by omega
  rw[e,this]
 | [_,_],_::_::_::_=>simp at c d;omega
 | _::_::_::_,_=>simp at c;omega
theorem qo {k:Nat}(hk:k<=2){n c:Nat}{P:List Place}(hn:P.Nodup) (d:∀v∈P,VOk n k v/\v.At<c):P.length<=2 * c:=by
 have h1:(P.map λv=>2 * v.At+v.Record.headD 0).Nodup:=by
  unfold List.Nodup
  rw[List.pairwise_map]
  refine List.Pairwise.imp_of_mem (λ{u v} i j g e=>g ?_) hn
  have a1:=(d u i).1
  have a2:=(d v j).1
  have hd:∀w:Place,VOk n k w->0<=w.Record.headD 0/\w.Record.headD 0<2:=λw l=>by
   have f:=l.rin
   cases hr:w.Record with
   | nil=>simp
   | cons x r=>
    have:=f x (by rw[hr];simp)
    simp
    omega
  have m:=hd u a1
  have o:=hd v a2
  exact yc hk a1 a2 (by omega) (by omega)
 have:=di (2 * c) _ h1 λx hx=>by
  obtain⟨v,hm,e⟩:=List.mem_map.1 hx
  obtain⟨a,b⟩:=d v hm
  have:=a.a0
  have f:=a.rin
  subst e
  cases hr:v.Record with
  | nil=>simp;omega
  | cons y r=>
   have:=f y (by rw[hr];simp)
   simp
   omega
 rwa [zQ]at this
theorem qg {d:Det}{n m k:Nat}{A:Arena}{P:List Place}{g:Parity}{W:Int->Prop}{pk:List Int}(h:Cx d n m k A P g W pk) (hn:n<=16) (hk:d.Pairs.length<=2){F:List Int}(i:Names P.length F) (ha:∀x∈F,atP P x<(n:Int)):F.length<=32:=by
 have f:∀x∈F,∃v,P[x.toNat]? =some v/\idx P x=some v/\0<=x:=λx hx=>by
  obtain⟨h0,h1⟩:=i.2 x hx
  obtain⟨v,b,_⟩:=iH (xs:=P) h0 h1
  exact⟨v,by rw[← cY h0];exact b,b,h0⟩
 have h1:(F.map λx=>P.getD x.toNat ⟨0,[]⟩).Nodup:=by
  unfold List.Nodup
  rw[List.pairwise_map]
  refine List.Pairwise.imp_of_mem (λ{x y} hx hy o e=>o ?_) i.1
  obtain⟨u,a,_,r⟩:=f x hx
  obtain⟨v,j,_,s⟩:=f y hy
  rw[List.getD_eq_getElem?_getD,List.getD_eq_getElem?_getD,a,j,Option.getD_some,Option.getD_some]at e
  subst e
  obtain⟨a1,a2⟩:=bJ.1 a
  obtain⟨q,l⟩:=bJ.1 j
  have:=(List.getElem_inj h.rg.game.nod).1 (a2.trans l.symm)
  omega
 have:=qo hk (c:=n) h1 λv b=>by
  obtain⟨x,hx,e⟩:=List.mem_map.1 b
  obtain⟨u,a,p,_⟩:=f x hx
  rw[List.getD_eq_getElem?_getD,a,Option.getD_some]at e
  subst e
  have:=ha x hx
  rw[eH p]at this
  exact⟨h.rg.game.inn u (bL a),this⟩
 rw[zQ]at this
 omega
end Go.Proofs.YtleekpaohfpooaaGreat
set_option linter.unusedVariables false
set_option linter.unusedSimpArgs false
namespace Go.Proofs.YtleekpaohfpooaaGreat
open Go Go.Wk Go.Proofs
theorem yo {p:Sig}(hs:sigOk p=true){cs:List Clause}(hb:∀c∈cs,Clause.bd c) (hc:∀c∈cs,cQ p c=true) (w:cs.length<=2):∃d A n m k P g W pk,da p cs=some (d,true)/\Stq p cs d n m k A P g W pk/\n<=16/\d.Pairs.length<=2/\(∀x∈d.Pairs,x.Ask.length<=1000000000/\x.Give.length<=1000000000)/\iV p d=some (A,d.Pairs,true)/\iJ A d.Pairs 0=some (g,P,true)/\lV g=some ⟨wonL g.Prio.length W,pk⟩/\idx (wonL g.Prio.length W) 0=some (b2i (wB W 0)):=by
 have D:ed p cs=true:=by
  unfold ed
  rw[decide_eq_true (by omega),List.all_eq_true.2 hc];rfl
 rcases oe p hb with ⟨_,_,y⟩ | ⟨_,_,N,d,C,_,e,hd,_,h1,_⟩
 · have:=y hs D
   omega
 · have T:=e.size
   have S:=e.len
   have O:4 ^ cs.length<=4 ^ 2:=Nat.pow_le_pow_right (by omega) w
   obtain⟨n,m,k,A,u,H,I,s,i,r,a,k1,q,hD,hpb,b,F⟩:=vF hs hd
   have z:=yC i s r a k1 q u hD b
   have R:A.Owner.length=n+n * m:=by rw[b.ol];simp
   have Q:n * m<=48 * 4:=Nat.mul_le_mul i a
   have E:pairsOk d.Pairs (A.Owner.length:Int)=true:=by
    have f:=hd
    unfold detOk at f
    simp only[n6]at f
    have hp:=f.1.2
    unfold pairsOk at hp ⊢
    rw[n6,List.all_eq_true]at hp ⊢
    refine⟨hp.1,λx hx=>?_⟩
    have:=hp.2 x hx
    unfold pairOk at this ⊢
    rw[n6]at this ⊢
    exact⟨(St.of this.1).ok (by omega),(St.of this.2).ok (by omega)⟩
   rcases ud z E hpb (Int.le_refl 0) (by omega) with ⟨_,K,X,G,t⟩ | ⟨P,g,B,l,J⟩
   · have:=qo (k:=d.Pairs.length) (by omega) (c:=A.Owner.length) G λv o=>⟨t v o,(t v o).a1⟩
     have:n * m<=16 * 4:=Nat.mul_le_mul (by omega) a
     omega
   · obtain⟨W,pk,L,Y,M⟩:=wm l
     have j:Cx d n m k A P g W pk:=⟨s,i,r,a,k1,q,u,hD,b,B,l,M⟩
     obtain⟨U,_,_,_,V,_⟩:=j.len
     exact⟨d,A,n,m,k,P,g,W,pk,h1,⟨hd,H,I,j,N,C,e⟩,by omega,by omega,hpb,F,J,L,qC ⟨Int.le_refl _,by omega⟩⟩
end Go.Proofs.YtleekpaohfpooaaGreat
set_option linter.unusedVariables false
set_option linter.unusedSimpArgs false
namespace Go.Proofs.YtleekpaohfpooaaGreat
open Go Go.Wk Go.Proofs
def Sat (c:Clause) (L:Nat->Int):Prop:=
 if c.Kind=1 then ∀t,L t∈c.A
 else if c.Kind=2 then ∀t,L t∈c.A->L (t+1)∈c.B
 else if c.Kind=3 then ∀t,L t∈c.A->∃u,t<=u/\L u∈c.B
 else if c.Kind=4 then Par.Io λt=>L t∈c.A
 else if c.Kind=5 then ¬Par.Io λt=>L t∉c.A
 else if c.Kind=6 then ∃t,L t∈c.A
 else(Par.Io λt=>L t∈c.A)->Par.Io λt=>L t∈c.B
def mrun (c:Clause) (L:Nat->Int):Nat->Int
 | 0=>0
 | t+1=>mst c (mrun c L t) (L t)
def Well (A G:List Int) (s:Nat->Int):Prop:=(Par.Io λt=>s t∈A)->Par.Io λt=>s t∈G
theorem xM {S:Nat->Prop}:(Par.Io λt=>S (t+1))↔Par.Io S:=⟨λh N=>by
 obtain⟨m,h1,a⟩:=h N
 exact⟨m+1,by omega,a⟩,λh N=>by
 obtain⟨m,h1,a⟩:=h (N+1)
 exact⟨m-1,by omega,by show S (m-1+1);rwa [show m-1+1=m by omega]⟩⟩
theorem kI {S T:Nat->Prop}(h:∀t,S t↔T t):Par.Io S↔Par.Io T:=by
 rw[show S=T from funext λt=>propext (h t)]
theorem ox {S T:Nat->Prop}(h:∀t,S (t+1)↔T t):Par.Io S↔Par.Io T:=xM.symm.trans (kI h)
theorem qk {s E:Nat->Prop}(h0:¬s 0) (h:∀t,s (t+1)↔s t\/E t):(Par.Io s↔∃t,E t)/\((Par.Io λt=>¬s t)↔∀t,¬E t)/\∀t,s t->∃u,E u:=by
 have f:∀t,s t↔∃u,u<t/\E u:=λt=>by
  induction t with
  | zero=>exact⟨λhs=>absurd hs h0,λ⟨u,b,_⟩=>absurd b (Nat.not_lt_zero u)⟩
  | succ t g=>
   rw[h,g]
   constructor
   · rintro(⟨u,h1,a⟩ | a)
     · exact⟨u,by omega,a⟩
     · exact⟨t,by omega,a⟩
   · rintro⟨u,h1,a⟩
     by_cases e:u=t
     · subst e;exact .inr a
     · exact .inl ⟨u,by omega,a⟩
 have c:∀t,s t->∃u,E u:=λt ht=>((f t).1 ht).elim λu b=>⟨u,b.2⟩
 refine⟨⟨λd=>?_,λ⟨t,ht⟩ N=>⟨max N (t+1),by omega,(f _).2 ⟨t,by omega,ht⟩⟩⟩,⟨λd t ht=>?_,λhn N=>⟨N,Nat.le_refl _,λhs=>?_⟩⟩,c⟩
 · obtain⟨m,_,hm⟩:=d 0
   exact c m hm
 · obtain⟨m,h1,a⟩:=d (t+1)
   exact a ((f m).2 ⟨t,by omega,ht⟩)
 · obtain⟨u,b⟩:=c N hs
   exact hn u b
section
variable {c:Clause}{L:Nat->Int}(k1:1<=c.Kind) (k7:c.Kind<=7)
include k1 k7
theorem pE:∀t,0<=mrun c L t/\mrun c L t<monStates c.Kind
 | 0=>by
  show(0:Int)<=0/\(0:Int)<_
  unfold monStates
  (repeat' split) <;> omega
 | t+1=>qh k1 k7 (pE t).1 (pE t).2 _ _
theorem sM:Sat c L↔Well (monPair c.Kind).Ask (monPair c.Kind).Give (mrun c L):=by
 have d:=pE (L:=L) k1 k7
 have b:∀t,mrun c L (t+1)=monNext c.Kind (mrun c L t) (decide (L t∈c.A)) (decide (L t∈c.B)):=λt=>rfl
 have h0:mrun c L 0=0:=rfl
 generalize mrun c L=s at *
 have D:¬Par.Io λt=>s t∈([]:List Int):=λh=>by
  obtain⟨m,_,hm⟩:=h 0
  cases hm
 have nw:∀A,Well A [] s↔¬Par.Io λt=>s t∈A:=λA=>⟨λh f=>D (h f),λh f=>absurd f h⟩
 have g:∀a:Int,(Par.Io λt=>s t∈[a])↔Par.Io λt=>s t=a:=λa=>kI λt=>zG
 unfold Sat
 rcases kinds k1 k7 with k | k | k | k | k | k | k <;> rw[k]at d b ⊢ <;> simp only[monNext,monStates,b01,mx]at d b <;> simp(config:={ decide:=true }) only[if_true,if_false]at d b ⊢
 · show _↔Well [1] [] s
   have o:=qk (s:=λt=>s t=1) (E:=λt=>L t∉c.A) (by simp[h0]) (λt=>by
    rw[b]
    rcases(show s t=0\/s t=1 by have:=d t;omega) with e | e <;> by_cases h:L t∈c.A <;> simp[e,h])
   rw[nw,g,o.1]
   exact⟨λh ⟨t,ht⟩=>ht (h t),λh t=>Classical.byContradiction λhn=>h ⟨t,hn⟩⟩
 · show _↔Well [2] [] s
   have o:=qk (s:=λt=>s t=2) (E:=λt=>s t=1/\L t∉c.B) (by simp[h0]) (λt=>by
    rw[b]
    by_cases hb:L t∈c.B <;> by_cases e:s t=2 <;> by_cases i:s t=1 <;> by_cases ha:L t∈c.A <;> simp_all)
   rw[nw,g,o.1]
   refine⟨λh ⟨t,h1,x⟩=>?_,λh t ha=>Classical.byContradiction λhn=>h ?_⟩
   · cases t with
     | zero=>rw[h0]at h1;cases h1
     | succ t=>
      refine x (h t ?_)
      rw[b]at h1
      by_cases ha:L t∈c.A
      · exact ha
      · exfalso
        simp only[ha,decide_false]at h1
        split at h1 <;> simp at h1
   · by_cases e:s (t+1)=2
     · exact o.2.2 _ e
     · refine⟨t+1,?_,hn⟩
       rw[b]at e ⊢
       split at e
       · exact absurd rfl e
       · rename_i y
         rw[if_neg y,decide_eq_true ha];rfl
 · show _↔Well [1] [0] s
   unfold Well
   rw[g,g]
   constructor
   · intro h G N
     apply Classical.byContradiction
     intro hn
     have h1:∀t,N<=t->s t=1:=λt ht=>by
      have:=d t
      have:¬s t=0:=λe=>hn ⟨t,ht,e⟩
      omega
     -- from when on it waits
     have C:∀t,s t=1->∃u,u<t/\L u∈c.A/\∀v,u<=v->v<t->L v∉c.B:=λt=>by
      induction t with
      | zero=>intro e;rw[h0]at e;cases e
      | succ t n=>
       intro e
       rw[b]at e
       by_cases hb:L t∈c.B
       · simp[hb]at e
       · by_cases i:s t=1
         · obtain⟨u,F,p,q⟩:=n i
           exact⟨u,by omega,p,λv j l=>by
            by_cases w:v=t
            · subst w;exact hb
            · exact q v j (by omega)⟩
         · by_cases ha:L t∈c.A
           · exact⟨t,by omega,ha,λv j l=>by rw[show v=t by omega];exact hb⟩
           · exfalso
             have:=d t
             have:s t=0:=by omega
             simp[hb,ha,this]at e
     obtain⟨u,F,p,q⟩:=C N (h1 N (Nat.le_refl _))
     obtain⟨v,j,l⟩:=h u p
     by_cases B:v<N
     · exact q v j B l
     · have:=h1 (v+1) (by omega)
       rw[b]at this
       simp[l]at this
   · intro h t ha
     apply Classical.byContradiction
     intro hn
     have h1:∀u,t<u->s u=1:=λu=>by
      induction u with
      | zero=>intro z;omega
      | succ u n=>
       intro z
       have hb:L u∉c.B:=λhb=>hn ⟨u,by omega,hb⟩
       rw[b]
       by_cases e:t=u
       · subst e
         have:=d t
         by_cases i:s t=1
         · simp[hb,ha,i]
         · have:s t=0:=by omega
           simp[hb,ha,this]
       · have i:=n (by omega)
         by_cases ha:L u∈c.A <;> simp[hb,ha,i]
     obtain⟨m,H,r⟩:=h (λN=>⟨max N (t+1),by omega,h1 _ (by omega)⟩) (t+1)
     rw[h1 m (by omega)]at r
     cases r
 · show _↔Well [0,1] [1] s
   unfold Well
   rw[g,ox (S:=λt=>s t=1) (T:=λt=>L t∈c.A) (λt=>by rw[b];by_cases h:L t∈c.A <;> simp[h])]
   exact⟨λh _=>h,λh=>h λN=>⟨N,Nat.le_refl _,by have:=d N;simp;omega⟩⟩
 · show _↔Well [1] [] s
   rw[nw,g,ox (S:=λt=>s t=1) (T:=λt=>L t∉c.A) (λt=>by rw[b];by_cases h:L t∈c.A <;> simp[h])]
 · show _↔Well [0] [] s
   have o:=qk (s:=λt=>s t=1) (E:=λt=>L t∈c.A) (by simp[h0]) (λt=>by
    rw[b]
    rcases(show s t=0\/s t=1 by have:=d t;omega) with e | e <;> by_cases h:L t∈c.A <;> simp[e,h])
   rw[nw,g,kI (S:=λt=>s t=0) (T:=λt=>¬s t=1) (λt=>by have:=d t;omega),o.2.1]
   exact⟨λ⟨t,ht⟩ h=>h t ht,λh=>Classical.byContradiction λhn=>h λt ht=>hn ⟨t,ht⟩⟩
 · show _↔Well [2,3] [1,3] s
   unfold Well
   rw[ox (S:=λt=>s t∈[2,3]) (T:=λt=>L t∈c.A) (λt=>by rw[b];by_cases h:L t∈c.A <;> by_cases f:L t∈c.B <;> simp[h,f]),
    ox (S:=λt=>s t∈[1,3]) (T:=λt=>L t∈c.B) (λt=>by rw[b];by_cases h:L t∈c.A <;> by_cases f:L t∈c.B <;> simp[h,f])]
end
end Go.Proofs.YtleekpaohfpooaaGreat
set_option linter.unusedVariables false
set_option linter.unusedSimpArgs false
namespace Go.Proofs.YtleekpaohfpooaaGreat
open Go Go.Wk Go.Proofs
def wordOk (w:Word) (n:Int):Bool:=decide ((w.Stem.length:Int)<=600)&&decide (1<=(w.Loop.length:Int))&&decide ((w.Loop.length:Int)<=600)&&w.Stem.all (inR n)&&w.Loop.all (inR n)
theorem jc {w:Word}{n:Int}(h:wordOk w n=true):w.Stem.length<=600/\1<=w.Loop.length/\w.Loop.length<=600/\w.Stem.all (inR n)=true/\w.Loop.all (inR n)=true:=by
 simp only[wordOk,n6,decide_eq_true_eq]at h
 obtain⟨⟨⟨⟨h1,c⟩,d⟩,a⟩,b⟩:=h
 exact⟨by omega,by omega,by omega,a,b⟩
end Go.Proofs.YtleekpaohfpooaaGreat
set_option linter.unusedVariables false
set_option linter.unusedSimpArgs false
namespace Go.Proofs.YtleekpaohfpooaaGreat
open Go Go.Wk Go.Proofs
def dang (a b:Int->Bool):List Int->Bool
 | []=>false
 | x::r=>(a x&&(x::r).all (λy=> !b y))||dang a b r
theorem vp (a b:Int->Bool):∀(xs:List Int) (p:Bool),xs.foldl (λp x=>(p||a x) && !b x) p=((p&&xs.all (λy=> !b y))||dang a b xs)
 | [],p=>by simp[dang]
 | x::r,p=>by
  rw[List.foldl_cons,vp a b r]
  simp only[dang,List.all_cons]
  generalize r.all (λy=> !b y)=u
  generalize dang a b r=v
  generalize a x=ax
  generalize b x=bx
  cases p <;> cases ax <;> cases bx <;> cases u <;> cases v <;> rfl
theorem uX {a b:Int->Bool}:∀{xs:List Int},dang a b xs=false↔∀(i:Nat) x,xs[i]? =some x->a x=true->(xs.drop i).any b=true
 | []=>by simp[dang]
 | x::r=>by
  simp only[dang,Bool.or_eq_false_iff,uX (xs:=r)]
  constructor
  · rintro⟨h1,e⟩ i y hy ha
    match i,hy with
    | 0,hy=>
     simp only[List.getElem?_cons_zero,Option.some.injEq]at hy
     subst hy
     rw[ha,Bool.true_and]at h1
     rw[List.drop_zero]
     cases h:(x::r).any b with
     | true=>rfl
     | false=>
      exfalso
      rw[Bool.eq_false_iff]at h1
      apply h1
      rw[List.all_eq_true]
      intro z c
      rw[List.any_eq_false]at h
      have:=h z c
      cases hb:b z <;> simp_all
    | i+1,hy=>
     rw[List.drop_succ_cons]
     exact e i y hy ha
  · intro h
    refine⟨?_,λi y hy ha=>?_⟩
    · cases ha:a x with
      | false=>rfl
      | true=>
       have:=h 0 x rfl ha
       rw[List.drop_zero,List.any_eq_true]at this
       obtain⟨z,c,hb⟩:=this
       rw[Bool.true_and,Bool.eq_false_iff]
       intro d
       rw[List.all_eq_true]at d
       have:=d z c
       rw[hb]at this
       cases this
    · have:=h (i+1) y hy ha
      rwa [List.drop_succ_cons]at this
theorem vG {p:Int->Bool}{xs:List Int}{z:Int}(a:z∈xs):(xs++[z]).all p=xs.all p:=by
 rw[List.all_append,Bool.eq_iff_iff]
 simp only[n6,List.all_eq_true,zG,forall_eq]
 exact⟨λh=>h.1,λh=>⟨h,h z a⟩⟩
theorem vH {p:Int->Bool}{xs:List Int}{z:Int}(a:z∈xs):(xs++[z]).any p=xs.any p:=by
 rw[List.any_append,Bool.eq_iff_iff]
 simp only[Bool.or_eq_true,List.any_eq_true,zG,exists_eq_left]
 exact⟨λh=>h.elim id λh=>⟨z,a,h⟩,λh=> .inl h⟩
end Go.Proofs.YtleekpaohfpooaaGreat
set_option linter.unusedVariables false
set_option linter.unusedSimpArgs false
namespace Go.Proofs.YtleekpaohfpooaaGreat
open Go Go.Wk Go.Proofs
theorem kr (w:Word){n:Int}(h0: -1000000000000000000<=n) (h1:n<=1000000000000000000):l7 w n=some (wordOk w n):=by
 unfold l7 wordOk
 simp only[orE,bG,fV _ h0 h1,andE,rS]
 have:decide (1<=(w.Loop.length:Int))= !((w.Loop.length:Int)==0):=by
  by_cases h:(w.Loop.length:Int)=0
  · simp[h]
  · have h1:1<=(w.Loop.length:Int):=by omega
    have a:((w.Loop.length:Int)==0)=false:=by rw[beq_eq_false_iff_ne];exact h
    rw[a,decide_eq_true h1];rfl
 rw[this]
 generalize decide ((w.Stem.length:Int)<=600)=b1
 generalize w.Stem.all (inR n)=b2
 generalize decide ((w.Loop.length:Int)<=600)=b3
 generalize w.Loop.all (inR n)=b4
 generalize((w.Loop.length:Int)==0)=b5
 cases b1 <;> cases b2 <;> cases b3 <;> cases b4 <;> cases b5 <;> rfl
theorem em (row:List Int) (v:Int):dZ row v=some (decide (v∈row)):=by
 unfold dZ
 rw[dt (f:=fE row v) (r:=true) (λx=> !(v==x)) (xs:=row) rfl (λi y hy=>by
  unfold fE
  rw[bT,hy,bG,show(y==v)=(v==y) from BEq.comm]
  cases v==y <;> rfl),← pv,List.any_eq_not_all_not]
 cases row.all (λx=> !(v==x)) <;> rfl
end Go.Proofs.YtleekpaohfpooaaGreat
set_option linter.unusedVariables false
set_option linter.unusedSimpArgs false
namespace Go.Proofs.YtleekpaohfpooaaGreat
open Go Go.Wk Go.Proofs
def ixW (s l t:Nat):Nat:=if t<s then t else s+(t-s) % l
def ltW (w:Word) (t:Nat):Int:=(w.Stem++w.Loop).getD (ixW w.Stem.length w.Loop.length t) 0
section
variable {w:Word}(hl:0<w.Loop.length)
include hl
theorem ul (t:Nat):ixW w.Stem.length w.Loop.length t<(w.Stem++w.Loop).length:=by
 have:=Nat.mod_lt (t-w.Stem.length) hl
 unfold ixW
 rw[zF]
 split <;> omega
theorem lB (t:Nat):(w.Stem++w.Loop)[ixW w.Stem.length w.Loop.length t]? =some (ltW w t):=by
 unfold ltW
 rw[List.getD_eq_getElem?_getD,bI (ul hl t)];rfl
omit hl in
theorem oy {i:Nat}(hi:i<(w.Stem++w.Loop).length):ixW w.Stem.length w.Loop.length i=i:=by
 rw[zF]at hi
 unfold ixW
 split
 · rfl
 · rw[Nat.mod_eq_of_lt (by omega)];omega
theorem mX {i:Nat}{x:Int}(h:(w.Stem++w.Loop)[i]? =some x):ltW w i=x:=by
 have:=lB hl i
 rw[oy (bJ.1 h).1,h]at this
 exact(Option.some.inj this).symm
theorem oA (t:Nat):ltW w t∈w.Stem++w.Loop:=bL (lB hl t)
theorem tu {t:Nat}(ht:w.Stem.length<=t):ltW w t∈w.Loop:=by
 have:=lB hl t
 unfold ixW at this
 rw[if_neg (by omega),List.getElem?_append_right (by omega)]at this
 exact bL this
theorem vl {p:Int->Prop}:(∀t,p (ltW w t))↔∀x∈w.Stem++w.Loop,p x:=⟨λh x hx=>by
 obtain⟨i,a⟩:=List.getElem?_of_mem hx
 rw[← mX hl a];exact h i,λh t=>h _ (oA hl t)⟩
theorem qe {p:Int->Prop}:(Par.Io λt=>p (ltW w t))↔∃x∈w.Loop,p x:=⟨λh=>by
 obtain⟨m,h1,b⟩:=h w.Stem.length
 exact⟨_,tu hl h1,b⟩,λ⟨x,hx,hp⟩ N=>by
 obtain⟨i,a⟩:=List.getElem?_of_mem hx
 have c:=(bJ.1 a).1
 have hm:w.Stem.length+i+w.Loop.length * N>=N:=by
  have:=Nat.mul_le_mul_right N hl
  omega
 refine⟨w.Stem.length+i+w.Loop.length * N,hm,?_⟩
 have:=lB hl (w.Stem.length+i+w.Loop.length * N)
 unfold ixW at this
 rw[if_neg (by omega),show w.Stem.length+i+w.Loop.length * N-w.Stem.length=i+w.Loop.length * N by omega,Nat.add_mul_mod_self_left,Nat.mod_eq_of_lt c,List.getElem?_append_right (by omega),show w.Stem.length+i-w.Stem.length=i by omega,a]at this
 show p (ltW w _)
 rw[← Option.some.inj this];exact hp⟩
theorem pX (t:Nat):ixW w.Stem.length w.Loop.length (t+1)=if ixW w.Stem.length w.Loop.length t+1<(w.Stem++w.Loop).length then ixW w.Stem.length w.Loop.length t+1 else w.Stem.length:=by
 rw[zF]
 unfold ixW
 by_cases h:t<w.Stem.length
 · by_cases b:t+1<w.Stem.length
   · rw[if_pos h,if_pos b,if_pos (by omega)]
   · rw[if_pos h,if_neg b,if_pos (by omega),show t+1-w.Stem.length=0 by omega,Nat.zero_mod];omega
 · rw[if_neg h,if_neg (by omega),show t+1-w.Stem.length=t-w.Stem.length+1 by omega]
   have:=Nat.mod_lt (t-w.Stem.length) hl
   rw[Nat.add_mod]
   by_cases e:(t-w.Stem.length) % w.Loop.length+1=w.Loop.length
   · rw[if_neg (by omega)]
     by_cases c:w.Loop.length=1
     · rw[c];simp[Nat.mod_one]
     · rw[Nat.mod_eq_of_lt (a:=1) (by omega),e,Nat.mod_self];omega
   · rw[if_pos (by omega),Nat.mod_eq_of_lt (a:=1) (by omega),Nat.mod_eq_of_lt (by omega)];omega
end
theorem zh (xs A:List Int):i8 xs A=some (xs.all λx=>decide (x∈A)):=by
 unfold i8
 rw[dt (f:=fF xs A) (r:=false) (λx=>decide (x∈A)) (xs:=xs) rfl (λi x hx=>by
  unfold fF
  rw[bT,hx,bG,em,bG]
  cases decide (x∈A) <;> rfl)]
 cases xs.all λx=>decide (x∈A) <;> rfl
theorem uN (xs A:List Int):er xs A=some (xs.any λx=>decide (x∈A)):=by
 unfold er
 rw[dt (f:=fH xs A) (r:=true) (λx=> !decide (x∈A)) (xs:=xs) rfl (λi x hx=>by
  unfold fH
  rw[bT,hx,bG,em,bG]
  cases decide (x∈A) <;> rfl),List.any_eq_not_all_not]
 cases xs.all λx=> !decide (x∈A) <;> rfl
theorem mO {xs A:List Int}:(xs.any λx=>decide (x∈A))=true↔∃x∈xs,x∈A:=by
 rw[List.any_eq_true]
 exact⟨λ⟨x,h1,a⟩=>⟨x,h1,of_decide_eq_true a⟩,λ⟨x,h1,a⟩=>⟨x,h1,decide_eq_true a⟩⟩
theorem ws {xs A:List Int}:(xs.all λx=>decide (x∈A))=true↔∀x∈xs,x∈A:=by
 rw[List.all_eq_true]
 exact⟨λh x hx=>of_decide_eq_true (h x hx),λh x hx=>decide_eq_true (h x hx)⟩
theorem zA {p:Sig}(hs:sigOk p=true){c:Clause}(hb:Clause.bd c) (hc:cQ p c=true){w:Word}(s:wordOk w (ltr p)=true):∃b,dR p c w=some b/\(b=true↔Sat c (ltW w)):=by
 obtain⟨w1,L,M,N,O⟩:=jc s
 obtain⟨k1,k7⟩:=ko hc
 have hl:=lI hs
 have a:0<w.Loop.length:=by omega
 have H:fO p w=some true:=by
  unfold fO
  rw[dE,hs,dM hs]
  simp only[bG,cond_true]
  rw[kr w (by omega) (by omega),s];rfl
 have C:dw w.Stem=some w.Stem:=by
  unfold dw
  rw[appL (by rw[zK];omega) rfl];rfl
 have B:appS 8 w.Stem w.Loop=some (w.Stem++w.Loop):=appL (by omega) rfl
 unfold dR
 rw[jT hs hb,hc,H]
 simp only[bG,sh,cond_false,C,B,zh,uN]
 have I:(w.Stem++w.Loop).length<=1200:=by rw[zF];omega
 unfold Sat
 rcases kinds k1 k7 with k | k | k | k | k | k | k <;> rw[k] <;> simp(config:={ decide:=true }) only[if_true,if_false]
 · exact⟨_,rfl,ws.trans (vl a (p:=λx=>x∈c.A)).symm⟩
 · show ∃b,bD (jM c (w.Stem++w.Loop) (w.Stem.length:Int)) _=some b/\_
   unfold jM
   have hn:∀j:Nat,j<(w.Stem++w.Loop).length->((w.Stem++w.Loop).getD (if j+1<(w.Stem++w.Loop).length then j+1 else w.Stem.length) 0)=ltW w (j+1):=λj hj=>by
    unfold ltW
    rw[pX a,oy hj]
   rw[dt (f:=fG c (w.Stem++w.Loop) (w.Stem.length:Int)) (r:=false) (xs:=List.range (w.Stem++w.Loop).length) (λj=> !decide (ltW w j∈c.A)||decide (ltW w (j+1)∈c.B)) (by simp) (λi x hx=>by
    have d:i<(w.Stem++w.Loop).length:=by simpa using (bJ.1 hx).1
    have g:i=x:=Option.some.inj ((List.getElem?_range d).symm.trans hx)
    subst g
    have F:(bif decide (IntKind.i64.wrap ((i:Int)+1)<((w.Stem++w.Loop).length:Int)) then some (IntKind.i64.wrap ((i:Int)+1)) else some (w.Stem.length:Int))=some (((if i+1<(w.Stem++w.Loop).length then i+1 else w.Stem.length:Nat):Int)):=by
     rw[wr' (by omega) (by omega)]
     by_cases h:i+1<(w.Stem++w.Loop).length
     · rw[decide_eq_true (by omega),if_pos h];rfl
     · rw[decide_eq_false (by omega),if_neg h];rfl
    have E:(if i+1<(w.Stem++w.Loop).length then i+1 else w.Stem.length)<(w.Stem++w.Loop).length:=by
     rw[zF];split <;> omega
    have o:=bI E
    have q:=hn i d
    rw[List.getD_eq_getElem?_getD,o,Option.getD_some]at q
    unfold fG
    rw[F,bG,bT,bI d,bG,em,bG,bT,o,q,← mX a (bI d)]
    simp only[bG,em]
    cases decide (ltW w i∈c.A) <;> cases decide (ltW w (i+1)∈c.B) <;> rfl)]
   refine⟨(List.range (w.Stem++w.Loop).length).all λj=> !decide (ltW w j∈c.A)||decide (ltW w (j+1)∈c.B),?_,?_⟩
   · cases(List.range (w.Stem++w.Loop).length).all λj=> !decide (ltW w j∈c.A)||decide (ltW w (j+1)∈c.B) <;> rfl
   · rw[List.all_eq_true]
     constructor
     · intro h t ha
       have hx:=ul a t
       have:=h _ (List.mem_range.2 hx)
       have y:ltW w (ixW w.Stem.length w.Loop.length t)=ltW w t:=mX a (lB a t)
       have z:ltW w (ixW w.Stem.length w.Loop.length t+1)=ltW w (t+1):=by
        unfold ltW
        rw[pX a,pX a,oy hx]
       rw[y,z,decide_eq_true ha]at this
       exact of_decide_eq_true this
     · intro h j _
       by_cases ha:ltW w j∈c.A
       · rw[decide_eq_true (h j ha),Bool.or_true]
       · rw[decide_eq_false ha];rfl
 · show ∃b,bD (iZ c w (w.Stem++w.Loop)) _=some b/\_
   unfold iZ
   rw[uN,bG]
   by_cases hB:∃x∈w.Loop,x∈c.B
   · rw[mO.2 hB]
     exact⟨true,rfl,⟨λ_ t _=>((qe a (p:=λx=>x∈c.B)).2 hB) t,λ_=>rfl⟩⟩
   · rw[show(w.Loop.any λx=>decide (x∈c.B))=false from Bool.eq_false_iff.2 λh=>hB (mO.1 h),cond_false]
     rw[dt (f:=eo c (w.Stem++w.Loop)) (r:=false) (xs:=List.range (w.Stem++w.Loop).length) (λj=> !decide (ltW w j∈c.A)||((w.Stem++w.Loop).drop j).any λx=>decide (x∈c.B)) (by simp) (λi x hx=>by
      have d:i<(w.Stem++w.Loop).length:=by simpa using (bJ.1 hx).1
      have g:i=x:=Option.some.inj ((List.getElem?_range d).symm.trans hx)
      subst g
      have G:subS (w.Stem++w.Loop) (i:Int) ((w.Stem++w.Loop).length:Int)=some ((w.Stem++w.Loop).drop i):=by
       unfold subS
       rw[if_pos (by omega),zH,zH,List.take_length]
      unfold eo
      rw[bT,bI d,bG,em,bG,G,← mX a (bI d)]
      simp only[bG,uN]
      cases decide (ltW w i∈c.A) <;> cases((w.Stem++w.Loop).drop i).any λx=>decide (x∈c.B) <;> rfl)]
     refine⟨(List.range (w.Stem++w.Loop).length).all λj=> !decide (ltW w j∈c.A)||((w.Stem++w.Loop).drop j).any λx=>decide (x∈c.B),?_,?_⟩
     · cases(List.range (w.Stem++w.Loop).length).all λj=> !decide (ltW w j∈c.A)||((w.Stem++w.Loop).drop j).any λx=>decide (x∈c.B) <;> rfl
     · rw[List.all_eq_true]
       constructor
       · intro h t ha
         have hx:=ul a t
         have hj:=h _ (List.mem_range.2 hx)
         rw[show ltW w (ixW w.Stem.length w.Loop.length t)=ltW w t from mX a (lB a t),decide_eq_true ha,sh,Bool.false_or]at hj
         obtain⟨x,l,e⟩:=mO.1 hj
         obtain⟨i,d⟩:=List.getElem?_of_mem l
         rw[List.getElem?_drop]at d
         by_cases n:ixW w.Stem.length w.Loop.length t+i<w.Stem.length
         · refine⟨ixW w.Stem.length w.Loop.length t+i,?_,by rw[mX a d];exact e⟩
           unfold ixW at n ⊢
           split <;> rename_i D
           · omega
           · rw[if_neg D]at n;omega
         · exfalso
           rw[List.getElem?_append_right (by omega)]at d
           exact hB ⟨x,bL d,e⟩
       · intro h j hj
         by_cases ha:ltW w j∈c.A
         · obtain⟨u,K,v⟩:=h j ha
           have J:u<w.Stem.length:=Classical.byContradiction λhn=>hB ⟨_,tu a (by omega),v⟩
           have m:=lB a u
           rw[oy (by rw[zF];omega)]at m
           rw[show(((w.Stem++w.Loop).drop j).any λx=>decide (x∈c.B))=true from mO.2 ⟨_,bL (i:=u-j) (by rw[List.getElem?_drop,show j+(u-j)=u by omega];exact m),v⟩,Bool.or_true]
         · rw[decide_eq_false ha];rfl
 · exact⟨_,rfl,mO.trans (qe a (p:=λx=>x∈c.A)).symm⟩
 · refine⟨_,rfl,ws.trans ?_⟩
   rw[qe a (p:=λx=>x∉c.A)]
   exact⟨λh ⟨x,l,e⟩=>e (h x l),λh x hx=>Classical.byContradiction λhn=>h ⟨x,hx,hn⟩⟩
 · exact⟨_,rfl,mO.trans ⟨λ⟨x,h1,A⟩=>Classical.byContradiction λhn=>(vl a (p:=λx=>x∉c.A)).1 (λt ht=>hn ⟨t,ht⟩) x h1 A,λ⟨t,ht⟩=>⟨_,oA a t,ht⟩⟩⟩
 · refine⟨!(w.Loop.any λx=>decide (x∈c.A))||(w.Loop.any λx=>decide (x∈c.B)),?_,?_⟩
   · cases(w.Loop.any λx=>decide (x∈c.A)) <;> cases(w.Loop.any λx=>decide (x∈c.B)) <;> rfl
   · rw[qe a (p:=λx=>x∈c.A),qe a (p:=λx=>x∈c.B),← mO,← mO]
     cases(w.Loop.any λx=>decide (x∈c.A)) <;> cases(w.Loop.any λx=>decide (x∈c.B)) <;> simp
end Go.Proofs.YtleekpaohfpooaaGreat
set_option linter.unusedVariables false
set_option linter.unusedSimpArgs false
namespace Go.Proofs.YtleekpaohfpooaaGreat
open Go Go.Wk Go.Proofs
def rowOk (p:Sig) (m:Machine) (i:Nat) (row:List Int):Bool:=
 match m.Out[i]? with
 | some o=>((row.length:Int)==pw p.In)&&((o.length:Int)==(row.length:Int))&&row.all (inR (m.Next.length:Int))&&o.all (inR (pw p.Out))
 | none=>false
def machOk (p:Sig) (m:Machine):Bool:=decide (1<=(m.Next.length:Int))&&decide ((m.Next.length:Int)<=48)&&((m.Out.length:Int)==(m.Next.length:Int))&&m.Next.zipIdx.all (λx=>rowOk p m x.2 x.1)
theorem kS (p:Sig) (m:Machine):iX p m=some (sigOk p&&machOk p m):=by
 unfold iX machOk
 rw[dE,bG]
 cases hs:sigOk p with
 | false=>rfl
 | true=>
  obtain⟨c,d⟩:=dN hs
  have j:=eR p.In
  have k:=eR p.Out
  simp only[sh,cond_false,dj,bG,Bool.true_and]
  cases h1:(decide (1<=(m.Next.length:Int))&&decide ((m.Next.length:Int)<=48)) with
  | false=>rfl
  | true=>
   simp only[n6,decide_eq_true_eq]at h1
   simp only[sh,cond_false,bG,Bool.true_and,bne]
   cases a:((m.Out.length:Int)==(m.Next.length:Int)) with
   | false=>rfl
   | true=>
    have a:=beq_iff_eq.1 a
    rw[jd (f:=gE p m) (r:=false) (rowOk p m) (xs:=m.Next) rfl (λi row hx=>by
     have g:=(bJ.1 hx).1
     obtain⟨o,b⟩:∃o,m.Out[i]? =some o:=⟨_,bI (by omega)⟩
     have e:rowOk p m i row=(((row.length:Int)==pw p.In)&&((o.length:Int)==(row.length:Int))&&row.all (inR (m.Next.length:Int))&&o.all (inR (pw p.Out))):=by unfold rowOk;rw[b]
     rw[e]
     unfold gE
     rw[bT,bT,hx,b]
     simp only[bG,eF,dc c,dc d,fV row (n:=(m.Next.length:Int)) (by omega) (by omega),fV o (n:=pw p.Out) (by omega) (by omega),bne]
     generalize((row.length:Int)==pw p.In)=b1
     generalize((o.length:Int)==(row.length:Int))=b2
     generalize row.all (inR (m.Next.length:Int))=b3
     generalize o.all (inR (pw p.Out))=b4
     cases b1 <;> cases b2 <;> cases b3 <;> cases b4 <;> rfl)]
    simp only[sh,cond_false,bG,Bool.true_and]
    cases List.all m.Next.zipIdx (λx=>rowOk p m x.2 x.1) <;> rfl
theorem kF {p:Sig}(hs:sigOk p=true) (m:Machine):iQ p m=some (machOk p m):=by
 unfold iQ machOk
 obtain⟨d,a⟩:=dN hs
 simp only[orE,bG,rS,bne]
 rw[← Bool.not_and,← Bool.not_and]
 cases h1:(decide (1<=(m.Next.length:Int))&&decide ((m.Next.length:Int)<=48)&&((m.Out.length:Int)==(m.Next.length:Int))) with
 | false=>rfl
 | true=>
  simp only[n6,decide_eq_true_eq,beq_iff_eq]at h1
  simp only[sh,cond_false,bG,Bool.true_and]
  rw[jd (f:=gl p m) (r:=false) (rowOk p m) (xs:=m.Next) rfl (λi row hx=>by
   have e:=(bJ.1 hx).1
   obtain⟨o,b⟩:∃o,m.Out[i]? =some o:=⟨_,bI (by omega)⟩
   have c:rowOk p m i row=(((row.length:Int)==pw p.In)&&((o.length:Int)==(row.length:Int))&&row.all (inR (m.Next.length:Int))&&o.all (inR (pw p.Out))):=by unfold rowOk;rw[b]
   rw[c]
   unfold gl
   rw[bT,bT,hx,b]
   simp only[bG,jR hs,(py a).1,(py a).2,mK,bne]
   generalize((row.length:Int)==pw p.In)=b1
   generalize((o.length:Int)==(row.length:Int))=b2
   generalize row.all (inR (m.Next.length:Int))=b3
   generalize o.all (inR (pw p.Out))=b4
   cases b1 <;> cases b2 <;> cases b3 <;> cases b4 <;> rfl)]
  cases List.all m.Next.zipIdx (λx=>rowOk p m x.2 x.1) <;> rfl
theorem c9 {p:Sig}{m:Machine}(h:machOk p m=true):1<=m.Next.length/\m.Next.length<=48/\m.Out.length=m.Next.length /\
 (∀row∈m.Next,RowIn m.Next.length (pw p.In) row)/\(∀row∈m.Out,RowIn (pw p.Out) (pw p.In) row):=by
 simp only[machOk,n6,decide_eq_true_eq,beq_iff_eq]at h
 obtain⟨⟨⟨h1,k⟩,l⟩,c⟩:=h
 rw[List.all_eq_true]at c
 have e:∀(i:Nat) row,m.Next[i]? =some row->∃o,m.Out[i]? =some o/\RowIn m.Next.length (pw p.In) row/\RowIn (pw p.Out) (pw p.In) o:=λi row hr=>by
  have:=c (row,i) (List.mem_zipIdx_iff_getElem?.2 hr)
  unfold rowOk at this
  cases b:m.Out[i]? with
  | none=>simp[b]at this
  | some o=>
   simp only[b,n6,beq_iff_eq,List.all_eq_true,dv]at this
   obtain⟨⟨⟨k1,q⟩,g⟩,j⟩:=this
   exact⟨o,rfl,⟨k1,g⟩,⟨by omega,j⟩⟩
 refine⟨by omega,by omega,by omega,λrow hr=>?_,λo b=>?_⟩
 · obtain⟨i,a⟩:=List.mem_iff_getElem?.1 hr
   exact(e i row a).choose_spec.2.1
 · obtain⟨i,a⟩:=List.mem_iff_getElem?.1 b
   have n:=(bJ.1 a).1
   obtain⟨r,d,_,f⟩:=e i _ (bI (by omega))
   rw[a]at d
   cases d
   exact f
end Go.Proofs.YtleekpaohfpooaaGreat
set_option linter.unusedVariables false
set_option linter.unusedSimpArgs false
namespace Go.Proofs.YtleekpaohfpooaaGreat
open Go Go.Wk Go.Proofs
theorem rq {p:Sig}{m:Machine}(h1:1<=m.Next.length) (f:m.Next.length<=48) (b:m.Out.length=m.Next.length) (c:∀row∈m.Next,RowIn m.Next.length (pw p.In) row) (d:∀row∈m.Out,RowIn (pw p.Out) (pw p.In) row):machOk p m=true:=by
 unfold machOk
 rw[b]
 simp only[n6,decide_eq_true_eq,beq_self_eq_true,and_true,List.all_eq_true]
 refine⟨by omega,λx hx=>?_⟩
 obtain⟨row,i⟩:=x
 rw[List.mem_zipIdx_iff_getElem?]at hx
 have hx:m.Next[i]? =some row:=hx
 have g:=(bJ.1 hx).1
 have e:m.Out[i]? =some (m.Out[i]'(by omega)):=bI (by omega)
 have a:=d _ (List.getElem_mem (by omega:i<m.Out.length))
 obtain⟨a1,a2⟩:=c row (bL hx)
 unfold rowOk
 rw[e]
 simp only[n6,beq_iff_eq,List.all_eq_true,dv]
 exact⟨⟨⟨a1,by rw[a1];exact a.1⟩,a2⟩,a.2⟩
end Go.Proofs.YtleekpaohfpooaaGreat
set_option linter.unusedVariables false
set_option linter.unusedSimpArgs false
namespace Go.Proofs.YtleekpaohfpooaaGreat
open Go Go.Wk Go.Proofs
def behind (m:Machine) (q:Int) (xs:List Int):Int:=xs.foldl (λq x=>tab m.Next q x) q
def lettersM (p:Sig) (m:Machine):Int->List Int->List Int
 | _,[]=>[]
 | q,x::xs=>(tab m.Out q x * pw p.In+x)::lettersM p m (tab m.Next q x) xs
theorem kl (p:Sig) (m:Machine):∀(xs:List Int) (q:Int),(lettersM p m q xs).length=xs.length
 | [],_=>rfl
 | x::xs,q=>by simp[lettersM,kl p m xs]
theorem ot (p:Sig) (m:Machine):∀(xs:List Int) (q:Int) (a:List Int),xs.foldl (λ(s:Int×List Int) x=>(tab m.Next s.1 x,s.2++[tab m.Out s.1 x * pw p.In+x])) (q,a)=(behind m q xs,a++lettersM p m q xs)
 | [],q,a=>by simp[behind,lettersM]
 | x::xs,q,a=>by
  rw[List.foldl_cons,ot p m xs]
  simp[behind,lettersM]
section
variable {p:Sig}{m:Machine}(hm:machOk p m=true)
include hm
theorem oT {q:Int}{xs:List Int}(a:0<=q) (b:q<m.Next.length) (hx:xs.all (inR (pw p.In))=true):0<=behind m q xs/\behind m q xs<m.Next.length:=by
 obtain⟨_,_,_,c,_⟩:=c9 hm
 induction xs generalizing q with
 | nil=>exact⟨a,b⟩
 | cons x xs f=>
  rw[List.all_cons,n6]at hx
  obtain⟨d,e⟩:=dv.1 hx.1
  obtain⟨_,_,_,g,i⟩:=iL c a b d e
  exact f g i hx.2
theorem iG (hs:sigOk p=true){q:Int}{xs:List Int}(l:0<=q) (n:q<m.Next.length) (hx:xs.all (inR (pw p.In))=true) (hl:xs.length<=1000000):fI p m q xs=some (lettersM p m q xs):=by
 obtain⟨_,_,w,g,k⟩:=c9 hm
 rw[List.all_eq_true]at hx
 have D:=eR p.In
 have E:=eR p.Out
 unfold fI
 rw[(lM (f:=fP p m xs) (λ(s:Int×List Int) x=>(tab m.Next s.1 x,s.2++[tab m.Out s.1 x * pw p.In+x])) (λj s=>0<=s.1/\s.1<m.Next.length/\s.2.length=j) (λi x s a ⟨d,k1,C⟩=>by
  obtain⟨b,c⟩:=dv.1 (hx x (bL a))
  obtain⟨row,o,r,e⟩:=iL g d k1 b c
  obtain⟨F,t,u,v⟩:=iL k d (by omega) b c
  have y:=(bJ.1 a).1
  have A:0<=tab m.Out s.1 x * pw p.In:=Int.mul_nonneg v.1 (by omega)
  have B:tab m.Out s.1 x * pw p.In<=4 * 4:=Int.mul_le_mul (by omega) (by omega) (by omega) (by omega)
  unfold fP
  rw[bT,a,bG,bG,t,bG,u,bG,eF,dc (dN hs).1,bG,bG,wr' (z:=tab m.Out s.1 x * pw p.In) (by omega) (by omega),wr' (by omega) (by omega),app1 (by omega) rfl,bG,bG,o,bG,r]
  exact⟨rfl,e.1,e.2,by simp;omega⟩) (s:=(q,[])) ⟨l,n,rfl⟩).1,ot]
 rfl
end
end Go.Proofs.YtleekpaohfpooaaGreat
set_option linter.unusedVariables false
set_option linter.unusedSimpArgs false
namespace Go.Proofs.YtleekpaohfpooaaGreat
open Go Go.Wk Go.Proofs
section
variable {p:Sig}{m:Machine}(hm:machOk p m=true)
include hm
theorem jx {q:Int}{xs:List Int}(g:0<=q) (j:q<m.Next.length) (hx:xs.all (inR (pw p.In))=true):gN m q xs=some (behind m q xs):=by
 obtain⟨_,_,_,b,_⟩:=c9 hm
 rw[List.all_eq_true]at hx
 unfold gN
 rw[(lM (f:=gO m xs) (λq x=>tab m.Next q x) (λ_ q=>0<=q/\q<m.Next.length) (λi x q a ⟨e,k1⟩=>by
  obtain⟨c,d⟩:=dv.1 (hx x (bL a))
  obtain⟨row,k,l,n⟩:=iL b e k1 c d
  unfold gO
  rw[bT,a,bG,k,bG,l]
  exact⟨rfl,n⟩) ⟨g,j⟩).1]
 rfl
end
end Go.Proofs.YtleekpaohfpooaaGreat
set_option linter.unusedVariables false
set_option linter.unusedSimpArgs false
namespace Go.Proofs.YtleekpaohfpooaaGreat
open Go Go.Wk Go.Proofs
def seg (X:Nat->Int):Nat->Nat->List Int
 | _,0=>[]
 | t,n+1=>X t::seg X (t+1) n
theorem ig (X:Nat->Int):∀n t,(seg X t n).length=n
 | 0,_=>rfl
 | n+1,t=>congrArg (· + 1) (ig X n (t+1))
theorem oP (X:Nat->Int):∀n t i,i<n->(seg X t n)[i]? =some (X (t+i))
 | n+1,t,0,_=>rfl
 | n+1,t,i+1,h=>by
  show(seg X (t+1) n)[i]? =_
  rw[oP X n (t+1) i (by omega),show t+1+i=t+(i+1) by omega]
theorem sO {X:Nat->Int}{xs:List Int}{t:Nat}(h:∀i x,xs[i]? =some x->X (t+i)=x):xs=seg X t xs.length:=List.ext_getElem? λi=>by
 by_cases a:i<xs.length
 · rw[oP X _ t i a,bI a,h i _ (bI a)]
 · rw[List.getElem?_eq_none (by omega),List.getElem?_eq_none (by rw[ig];omega)]
theorem ll (X:Nat->Int):∀a b t,seg X t a++seg X (t+a) b=seg X t (a+b)
 | 0,b,t=>by rw[Nat.zero_add];rfl
 | a+1,b,t=>by
  rw[show a+1+b=a+b+1 by omega]
  show X t::(seg X (t+1) a++seg X (t+(a+1)) b)=X t::seg X (t+1) (a+b)
  rw[← ll X a b (t+1),show t+1+a=t+(a+1) by omega]
theorem uO {X:Nat->Int}{P:Int->Prop}(h:∀t,P (X t)):∀n t,∀x∈seg X t n,P x
 | 0,_,x,hx=>by cases hx
 | n+1,t,x,hx=>by
  rcases List.mem_cons.1 hx with e | hx
  · rw[e];exact h t
  · exact uO h n (t+1) x hx
theorem xR {X:Nat->Int}{a b:Nat}(hb:0<b) (hp:∀t,a<=t->X (t+b)=X t) (t:Nat):ltW ⟨seg X 0 a,seg X a b⟩ t=X t:=by
 have e:∀j s,a<=s->X (s+b * j)=X s:=λj s hs=>by
  induction j with
  | zero=>rfl
  | succ j g=>rw[Nat.mul_succ,← Nat.add_assoc,hp _ (by omega),g]
 have d:=ll X a b 0
 rw[Nat.zero_add]at d
 unfold ltW
 dsimp only
 rw[d,ig,ig]
 have hm:=Nat.mod_lt (t-a) hb
 have f:ixW a b t<a+b:=by unfold ixW;split <;> omega
 rw[List.getD_eq_getElem?_getD,oP X _ 0 _ f,Option.getD_some,Nat.zero_add]
 unfold ixW
 split
 · rfl
 · have:=Nat.mod_add_div (t-a) b
   have c:=e ((t-a) / b) (a+(t-a) % b) (by omega)
   rw[show a+(t-a) % b+b * ((t-a) / b)=t by omega]at c
   exact c.symm
theorem tt {w:Word}(c:0<w.Loop.length) (j:Nat):w.Loop=seg (ltW w) (w.Stem.length+j * w.Loop.length) w.Loop.length:=sO λi x a=>by
 have b:=(bJ.1 a).1
 have:=lB c (w.Stem.length+j * w.Loop.length+i)
 unfold ixW at this
 rw[if_neg (by omega),show w.Stem.length+j * w.Loop.length+i-w.Stem.length=i+w.Loop.length * j by rw[Nat.mul_comm];omega,Nat.add_mul_mod_self_left,Nat.mod_eq_of_lt b,List.getElem?_append_right (by omega),show w.Stem.length+i-w.Stem.length=i by omega,a]at this
 exact(Option.some.inj this).symm
def runM (m:Machine) (I:Nat->Int):Nat->Int
 | 0=>0
 | t+1=>tab m.Next (runM m I t) (I t)
def letM (p:Sig) (m:Machine) (I:Nat->Int) (t:Nat):Int:=tab m.Out (runM m I t) (I t) * pw p.In+I t
theorem vA (p:Sig) (m:Machine) (I:Nat->Int):∀n t,behind m (runM m I t) (seg I t n)=runM m I (t+n)/\lettersM p m (runM m I t) (seg I t n)=seg (letM p m I) t n
 | 0,_=>⟨rfl,rfl⟩
 | n+1,t=>by
  obtain⟨h1,a⟩:=vA p m I n (t+1)
  refine⟨?_,congrArg (letM p m I t:: ·) a⟩
  rw[show t+(n+1)=t+1+n by omega]
  exact h1
theorem tp {b:Int->Int}{f:Nat->Int}(a:∀j,f (j+1)=b (f j)):∀(k:Nat) (T:List Int) (q:Int),T=seg f 0 T.length->q=f T.length->(lasso b k T q).1=seg f 0 (lasso b k T q).1.length/\(lasso b k T q).2=f (lasso b k T q).1.length
 | 0,T,q,h1,h2=>⟨h1,h2⟩
 | k+1,T,q,h1,h2=>by
  unfold lasso
  split
  · exact⟨h1,h2⟩
  · refine tp a k _ _ ?_ ?_
    · have:=ll f T.length 1 0
      rw[← h1,Nat.zero_add]at this
      rw[zF,List.length_singleton,← this,h2];rfl
    · rw[zF,List.length_singleton,a,h2]
section
variable {p:Sig}{m:Machine}(hm:machOk p m=true)
include hm
theorem nH {I:Nat->Int}(hI:∀t,0<=I t/\I t<pw p.In):∀t,0<=runM m I t/\runM m I t<m.Next.length
 | 0=>by
  obtain⟨d,_⟩:=c9 hm
  show(0:Int)<=0/\(0:Int)<_
  omega
 | t+1=>by
  obtain⟨_,_,_,a,_⟩:=c9 hm
  obtain⟨_,_,_,b,c⟩:=iL a (nH hI t).1 (nH hI t).2 (hI t).1 (hI t).2
  exact⟨b,c⟩
theorem xP (hs:sigOk p=true){I:Nat->Int}(hI:∀t,0<=I t/\I t<pw p.In) (t:Nat):0<=letM p m I t/\letM p m I t<ltr p:=by
 obtain⟨_,_,a,_,b⟩:=c9 hm
 obtain⟨c,d⟩:=nH hm hI t
 obtain⟨_,_,_,f,l⟩:=iL b c (by rw[a];exact d) (hI t).1 (hI t).2
 obtain⟨j,k⟩:=hI t
 unfold letM
 generalize tab m.Out (runM m I t) (I t)=o at *
 generalize I t=i at *
 have e:ltr p=pw p.Out * pw p.In:=Int.mul_comm _ _
 rw[e]
 have h1:(o+1) * pw p.In<=pw p.Out * pw p.In:=Int.mul_le_mul_of_nonneg_right (by omega) (by omega)
 have g:0<=o * pw p.In:=Int.mul_nonneg f (by omega)
 rw[Int.add_mul,Int.one_mul]at h1
 omega
theorem wg (hs:sigOk p=true){w:Word}(W:wordOk w (pw p.In)=true) (ap:w.Stem.length+48 * w.Loop.length<=600):∃r,iY p m w=some r/\wordOk r (ltr p)=true/\ltW r=letM p m (ltW w):=by
 obtain⟨aq,ar,ah,ai,aj⟩:=c9 hm
 obtain⟨w1,av,ad,u,c⟩:=jc W
 have au:=eR p.In
 have l:0<w.Loop.length:=by omega
 have hI:∀t,0<=ltW w t/\ltW w t<pw p.In:=λt=>by
  rcases zN.1 (oA l t) with h | h
  · exact dv.1 (List.all_eq_true.1 u _ h)
  · exact dv.1 (List.all_eq_true.1 c _ h)
 have F:w.Stem=seg (ltW w) 0 w.Stem.length:=sO λi x H=>by
  rw[Nat.zero_add]
  exact mX l (by rw[List.getElem?_append_left (bJ.1 H).1];exact H)
 have Q:∀j,w.Loop=seg (ltW w) (w.Stem.length+j * w.Loop.length) w.Loop.length:=tt l
 generalize hX:letM p m (ltW w)=X
 have v:=vA p m (ltW w)
 rw[hX]at v
 obtain⟨d,e⟩:=v w.Stem.length 0
 rw[← F,Nat.zero_add]at d
 rw[← F]at e
 have d:behind m 0 w.Stem=runM m (ltW w) w.Stem.length:=d
 have e:lettersM p m 0 w.Stem=seg X 0 w.Stem.length:=e
 have hj:∀j,behind m (runM m (ltW w) (w.Stem.length+j * w.Loop.length)) w.Loop=runM m (ltW w) (w.Stem.length+(j+1) * w.Loop.length)/\lettersM p m (runM m (ltW w) (w.Stem.length+j * w.Loop.length)) w.Loop=seg X (w.Stem.length+j * w.Loop.length) w.Loop.length:=λj=>by
  obtain⟨h1,g⟩:=v w.Loop.length (w.Stem.length+j * w.Loop.length)
  rw[← Q j]at h1 g
  exact⟨by rw[h1,Nat.add_mul,Nat.one_mul,← Nat.add_assoc],g⟩
 have hb:∀q:Int,0<=q->q<(m.Next.length:Nat)->0<=behind m q w.Loop/\behind m q w.Loop<(m.Next.length:Nat):=λq a b=>oT hm a b c
 have o:=nH hm hI w.Stem.length
 have D:=ny (f:=eE m w) (λT q=>(T,q)) hb (λT q S hr L a1=>by
  unfold eE
  dsimp only
  rw[ib,bG,tD]
  by_cases J:q∈T
  · simp[J]
  · rw[app1 (by omega) rfl,jx hm L a1 c]
    simp[J]) (m.Next.length+1) (2 ^ 64) [] (runM m (ltW w) w.Stem.length) (by simp) (by omega) (by simp) (by simp) o.1 o.2
 obtain⟨y,A,B⟩:=n7 hb (m.Next.length+1) [] (runM m (ltW w) w.Stem.length) (by simp) (by simp) (by simp) o.1 o.2
 obtain⟨n,C⟩:=tp (b:=λq=>behind m q w.Loop) (f:=λj=>runM m (ltW w) (w.Stem.length+j * w.Loop.length)) (λj=>(hj j).1.symm) (m.Next.length+1) [] (runM m (ltW w) w.Stem.length) rfl (by show _=runM m (ltW w) (w.Stem.length+0 * w.Loop.length);rw[Nat.zero_mul];rfl)
 generalize lasso (λq=>behind m q w.Loop) (m.Next.length+1) [] (runM m (ltW w) w.Stem.length)=LL at D y A B n C
 obtain⟨T,z⟩:=LL
 dsimp only at D y A B n C
 have S:=di _ T A B
 obtain⟨k,ab,ac,K⟩:=oF y
 have ak:T.length * w.Loop.length<=48 * w.Loop.length:=Nat.mul_le_mul_right _ (by omega)
 have ao:k * w.Loop.length<=T.length * w.Loop.length:=Nat.mul_le_mul_right _ (by omega)
 have Z:z=runM m (ltW w) (w.Stem.length+k * w.Loop.length):=by
  rw[n,oP _ _ 0 k ac,Nat.zero_add]at K
  exact(Option.some.inj K).symm
 -- the part behind each state
 have U:∀j,j<T.length->∃x,T[j]? =some x/\(0<=x/\x<m.Next.length)/\lettersM p m x w.Loop=seg X (w.Stem.length+j * w.Loop.length) w.Loop.length:=λj hjl=>by
  refine⟨_,by rw[n];exact oP _ _ 0 j hjl,?_,?_⟩
  · exact nH hm hI _
  · rw[Nat.zero_add];exact(hj j).2
 obtain⟨s,c1,c2⟩:=cJ (f:=dY p m w (T,z) (k:Int)) (λj (s:List Int×List Int)=>s=(seg X 0 (w.Stem.length+min j k * w.Loop.length),seg X (w.Stem.length+k * w.Loop.length) ((j-k) * w.Loop.length))) T.length (s:=(seg X 0 w.Stem.length,[])) (by rw[Nat.zero_min,Nat.zero_mul,Nat.zero_sub,Nat.zero_mul];rfl) (λj s hjl V=>by
  obtain⟨x,hx,⟨ae,af⟩,Y⟩:=U j hjl
  have an:j * w.Loop.length<=T.length * w.Loop.length:=Nat.mul_le_mul_right _ (by omega)
  have am:(j-k) * w.Loop.length<=j * w.Loop.length:=Nat.mul_le_mul_right _ (by omega)
  subst V
  unfold dY
  dsimp only
  rw[bT,hx,bG,iG hm hs ae af c (by omega),Y,bG]
  have M:(j+1) * w.Loop.length=j * w.Loop.length+w.Loop.length:=by rw[Nat.add_mul,Nat.one_mul]
  by_cases al:j<k
  · rw[decide_eq_true (show(j:Int)<(k:Int) by omega),cond_true,Nat.min_eq_left (show j<=k by omega),Nat.min_eq_left (show j+1<=k by omega),appL (by rw[ig,ig];omega) rfl]
    refine⟨_,rfl,?_⟩
    have:=ll X (w.Stem.length+j * w.Loop.length) w.Loop.length 0
    rw[Nat.zero_add]at this
    rw[this,M,show j-k=0 by omega,show j+1-k=0 by omega,Nat.add_assoc]
  · rw[decide_eq_false (show ¬(j:Int)<(k:Int) by omega),cond_false,Nat.min_eq_right (show k<=j by omega),Nat.min_eq_right (show k<=j+1 by omega),appL (by rw[ig,ig];omega) rfl]
    refine⟨_,rfl,?_⟩
    have ag:(j-k) * w.Loop.length+k * w.Loop.length=j * w.Loop.length:=by rw[← Nat.add_mul,Nat.sub_add_cancel (by omega)]
    rw[show w.Stem.length+j * w.Loop.length=w.Stem.length+k * w.Loop.length+(j-k) * w.Loop.length by omega,ll,show j+1-k=j-k+1 by omega,Nat.add_mul (j-k),Nat.one_mul])
 rw[Nat.min_eq_right (show k<=T.length by omega)]at c2
 have I:∀xs:List Int,xs.length<=600->xs.all (inR (pw p.In))=true->fw p xs=some true:=λxs h1 g=>by
  unfold fw eF
  rw[decide_eq_true (by omega),cond_true,dc (dN hs).1,bG,bG,fV _ (by omega) (by omega),g]
  rfl
 have hD:(T.length-k) * w.Loop.length+k * w.Loop.length=T.length * w.Loop.length:=by rw[← Nat.add_mul,Nat.sub_add_cancel (by omega)]
 have N:0<(T.length-k) * w.Loop.length:=Nat.mul_pos (by omega) l
 have O:((w.Loop.length:Int)==0)=false:=by rw[beq_eq_false_iff_ne];omega
 have G:∀t,0<=X t/\X t<ltr p:=λt=>by rw[← hX];exact xP hm hs hI t
 refine⟨⟨seg X 0 (w.Stem.length+k * w.Loop.length),seg X (w.Stem.length+k * w.Loop.length) ((T.length-k) * w.Loop.length)⟩,?_,?_,funext λt=>xR N (λt ht=>?_) t⟩
 · unfold iY
   rw[kS,hs,hm]
   simp only[Bool.true_and,bG,sh,cond_false,I _ w1 u,I _ ad c,O]
   rw[jx hm (by omega) (by omega) u,d,bG,D,bG,ca]
   dsimp only
   rw[ib,bG,ab,iG hm hs (by omega) (by omega) u (by omega),e,bG]
   show bD (cntM (dY p m w (T,z) (k:Int)) T.length 0 (seg X 0 w.Stem.length,[])) _=_
   rw[c1,c2,bG,ca]
   dsimp only
   rw[ig,ig,decide_eq_false (by omega),cond_false,decide_eq_false (by omega)]
   rfl
 · unfold wordOk
   dsimp only
   rw[ig,ig,decide_eq_true (by omega),decide_eq_true (by omega),decide_eq_true (by omega),List.all_eq_true.2 (uO (P:=λx=>inR (ltr p) x=true) (λt=>dv.2 (G t)) _ _),List.all_eq_true.2 (uO (P:=λx=>inR (ltr p) x=true) (λt=>dv.2 (G t)) _ _)]
   rfl
 · -- the run comes again
   have E:∀t,w.Stem.length<=t->ltW w (t+(T.length-k) * w.Loop.length)=ltW w t:=λt ht=>by
    unfold ltW ixW
    rw[if_neg (by omega),if_neg (by omega),show t+(T.length-k) * w.Loop.length-w.Stem.length=t-w.Stem.length+w.Loop.length * (T.length-k) by rw[Nat.mul_comm];omega,Nat.add_mul_mod_self_left]
   have R:∀i,runM m (ltW w) (w.Stem.length+k * w.Loop.length+i+(T.length-k) * w.Loop.length)=runM m (ltW w) (w.Stem.length+k * w.Loop.length+i):=λi=>by
    induction i with
    | zero=>
     rw[Nat.add_zero,← Z,C,show w.Stem.length+k * w.Loop.length+(T.length-k) * w.Loop.length=w.Stem.length+T.length * w.Loop.length by omega]
    | succ i aa=>
     rw[show w.Stem.length+k * w.Loop.length+(i+1)+(T.length-k) * w.Loop.length=w.Stem.length+k * w.Loop.length+i+(T.length-k) * w.Loop.length+1 by omega]
     show tab m.Next (runM m (ltW w) (w.Stem.length+k * w.Loop.length+i+(T.length-k) * w.Loop.length)) (ltW w (w.Stem.length+k * w.Loop.length+i+(T.length-k) * w.Loop.length))=tab m.Next (runM m (ltW w) (w.Stem.length+k * w.Loop.length+i)) (ltW w (w.Stem.length+k * w.Loop.length+i))
     rw[aa,E _ (by omega)]
   have:=R (t-(w.Stem.length+k * w.Loop.length))
   rw[show w.Stem.length+k * w.Loop.length+(t-(w.Stem.length+k * w.Loop.length))=t by omega]at this
   rw[← hX]
   unfold letM
   rw[this,E t (by omega)]
end
end Go.Proofs.YtleekpaohfpooaaGreat
set_option linter.unusedVariables false
set_option linter.unusedSimpArgs false
namespace Go.Proofs.YtleekpaohfpooaaGreat
open Go Go.Wk Go.Proofs
theorem qa (f:Int->Bool) (xs:List Int) (p:Nat):∀n:Nat,dz f xs n<(p:Int)↔∀(j:Nat) x,p<=j->j<n->xs[j]? =some x->f x=false
 | 0=>⟨λ_ j x _ h=>absurd h (Nat.not_lt_zero j),λ_=>by unfold dz;omega⟩
 | n+1=>by
  have d:=qa f xs p n
  have g:∀j,j<n+1->j<n\/j=n:=λj hj=>by omega
  unfold dz
  cases hx:xs[n]? with
  | none=>
   dsimp only
   rw[cond_false,d]
   exact⟨λh j x h1 a b=>(g j a).elim (λa=>h j x h1 a b) λe=>by(subst e;rw[hx]at b;cases b),λh j x h1 a=>h j x h1 (by omega)⟩
  | some y=>
   dsimp only
   cases c:f y with
   | true=>
    rw[cond_true]
    refine⟨λh j x h1 a=>by omega,λh=>Classical.byContradiction λhn=>?_⟩
    rw[h n y (by omega) (by omega) hx]at c
    cases c
   | false=>
    rw[cond_false,d]
    exact⟨λh j x h1 a b=>(g j a).elim (λa=>h j x h1 a b) λe=>by(subst e;rw[hx]at b;cases b;exact c),λh j x h1 a=>h j x h1 (by omega)⟩
theorem tI (ps:List Pair) (rc:List Int) (v:Int):(lU ps rc v=0/\dz (askI ps v) rc rc.length<0/\dz (du ps v) rc rc.length<0) \/
 (dz (du ps v) rc rc.length<dz (askI ps v) rc rc.length/\lU ps rc v=2 * dz (askI ps v) rc rc.length+1)\/(dz (askI ps v) rc rc.length<=dz (du ps v) rc rc.length/\0<=dz (du ps v) rc rc.length/\lU ps rc v=2 * dz (du ps v) rc rc.length+2):=by
 have a:=kK (askI ps v) rc rc.length
 have g:=kK (du ps v) rc rc.length
 unfold lU
 generalize dz (askI ps v) rc rc.length=x at *
 generalize dz (du ps v) rc rc.length=y at *
 by_cases h1:x<0 <;> by_cases b:y<0 <;> by_cases c:y<x <;> simp[h1,b,c] <;> omega
theorem moved {G:Int->Bool}{xs:List Int}{p:Nat}{i:Int}(hp:xs[p]? =some i) (hi:G i=false):∃a,p<=a/\(xs.filter G++xs.filter λx=> !G x)[a]? =some i/\(a=p->∀(j:Nat) x,p<=j->xs[j]? =some x->G x=false):=by
 obtain⟨A,B,e,d⟩:∃A B,xs=A++i::B/\A.length=p:=by
  obtain⟨hl,b⟩:=bJ.1 hp
  refine⟨xs.take p,xs.drop (p+1),?_,by rw[List.length_take];omega⟩
  have:=List.drop_eq_getElem_cons hl
  rw[b]at this
  rw[← this,List.take_append_drop]
 subst e
 have c:=nX G A
 refine⟨p+(B.filter G).length,by omega,?_,λe j x hj hx=>?_⟩
 · rw[List.filter_append,List.filter_append,List.filter_cons_of_neg (by rw[hi];simp),List.filter_cons_of_pos (by rw[hi];rfl),List.getElem?_append_right (by rw[zF];omega),List.getElem?_append_right (by rw[zF];omega),zF]
   rw[show p+(B.filter G).length-((A.filter G).length+(B.filter G).length)-(A.filter λx=> !G x).length=0 by omega];rfl
 · have hB:B.filter G=[]:=List.length_eq_zero_iff.1 (by omega)
   rw[List.getElem?_append_right (by omega)]at hx
   match hq:j-A.length,hx with
   | 0,hx=>cases hx;exact hi
   | q+1,hx=>
    have:=List.filter_eq_nil_iff.1 hB x (bL hx)
    simpa using this
theorem wE {Q:Nat->Prop}:∀{b:Nat},(∃n,Q n)->(∀n,Q n->n<b)->∃n,Q n/\∀m,Q m->m<=n
 | 0,⟨n,hn⟩,hb=>absurd (hb n hn) (Nat.not_lt_zero n)
 | b+1,h,hb=>by
  by_cases a:Q b
  · exact⟨b,a,λm hm=>by have:=hb m hm;omega⟩
  · exact wE (b:=b) h λn hn=>by
     have:=hb n hn
     have:n≠b:=λe=>a (e ▸ hn)
     omega
section
variable {ps:List Pair}{k:Nat}{v:Nat->Int}{rc:Nat->List Int}(hk:∀t,(rc t).length=k) (hn:∀t,rc (t+1)=jE ps (rc t) (v t)){d:Int}(hio:Par.Io λt=>lU ps (rc t) (v t)=d){N:Nat}(hle:∀t,N<=t->lU ps (rc t) (v t)<=d)
include hk hn hio hle
theorem vJ (hd:d % 2=0){i:Int}(hi:i∈rc 0) (ha:Par.Io λt=>askI ps (v t) i=true):Par.Io λt=>du ps (v t) i=true:=by
 intro M
 apply Classical.byContradiction
 intro A
 have s:∀t,M<=t->du ps (v t) i=false:=λt ht=>Bool.eq_false_iff.2 λh=>A ⟨t,ht,h⟩
 have z:∀t,i∈rc t:=λt=>by
  induction t with
  | zero=>exact hi
  | succ t n=>
   rw[hn]
   unfold jE
   rw[zN,List.mem_filter,List.mem_filter]
   cases du ps (v t) i <;> simp[n]
 obtain⟨p,⟨a,h0,hp⟩,w⟩:=wE (Q:=λp=>∃t,M<=t/\(rc t)[p]? =some i) (b:=k) (by
  obtain⟨p,hp⟩:=List.getElem?_of_mem (z M)
  exact⟨p,M,Nat.le_refl M,hp⟩) (λp ⟨t,_,hp⟩=>by
  have:=(bJ.1 hp).1
  rwa [hk]at this)
 have y:∀m,(rc (a+m))[p]? =some i:=λm=>by
  induction m with
  | zero=>exact hp
  | succ m n=>
   obtain⟨g,B,l,_⟩:=moved n (s (a+m) (by omega))
   have:(rc (a+m+1))[g]? =some i:=by rw[hn];exact l
   have:=w g ⟨_,by omega,this⟩
   have e:g=p:=by omega
   subst e
   rw[show a+(m+1)=a+m+1 from rfl,hn]
   exact l
 have u:∀t,a<=t->dz (du ps (v t)) (rc t) (rc t).length<(p:Int):=λt ht=>by
  have e:a+(t-a)=t:=by omega
  have h1:=y (t-a)
  rw[e]at h1
  obtain⟨g,B,l,C⟩:=moved h1 (s t (by omega))
  have:=w g ⟨t+1,by omega,by rw[hn];exact l⟩
  exact(qa _ _ p _).2 λj x hj _ hx=>C (by omega) j x hj hx
 obtain⟨c,h1,q⟩:=ha (max a N)
 have a1:=hle c (by omega)
 have a2:=u c (by omega)
 have D:¬dz (askI ps (v c)) (rc c) (rc c).length<(p:Int):=λh=>by
  have f:=y (c-a)
  rw[show a+(c-a)=c by omega]at f
  have:=(qa _ _ p _).1 h p i (Nat.le_refl p) (bJ.1 f).1 f
  rw[this]at q
  cases q
 obtain⟨o,f,F⟩:=hio a
 have E:=u o f
 rcases tI ps (rc c) (v c) with h | h | h <;> rcases tI ps (rc o) (v o) with r | r | r <;> omega
end
end Go.Proofs.YtleekpaohfpooaaGreat
set_option linter.unusedVariables false
set_option linter.unusedSimpArgs false
namespace Go.Proofs.YtleekpaohfpooaaGreat
open Go Go.Wk Go.Proofs
def recP (P:List Place) (y:Int):List Int:=match idx P y with | some v=>v.Record | none=>[]
theorem wv {ps:List Pair}{i:Nat}{a:Pair}(h:ps[i]? =some a) (v:Int):askI ps v (i:Int)=true↔v∈a.Ask:=by
 unfold askI
 rw[bT,h]
 simp
theorem vL {ps:List Pair}{i:Nat}{a:Pair}(h:ps[i]? =some a) (v:Int):du ps v (i:Int)=true↔v∈a.Give:=by
 unfold du
 rw[bT,h]
 simp
section
variable {d:Det}{n m k:Nat}{A:Arena}{P:List Place}{g:Parity}{W:Int->Prop}{pk:List Int}(h:Cx d n m k A P g W pk){q:Bool}{π:Nat->Int}(hπ:Par.Play (gI g) q (Par.Rg (Xn P.length) (wB W) q) (pkL pk) π) (h0:π 0=0)
include h hπ
theorem Cx.recs (t:Nat):(recP P (π t)).length=d.Pairs.length/\recP P (π (t+1))=jE d.Pairs (recP P (π t)) (atP P (π t))/\(gI g).pri (π t)=lU d.Pairs (recP P (π t)) (atP P (π t)):=by
 obtain⟨⟨hx,_⟩,j,_⟩:=hπ t
 obtain⟨v,a,_,_⟩:=h.place hx
 have hj:P[(π t).toNat]? =some v:=by rw[← cY hx.1];exact a
 have k:=h.rg.game.inn v (bL hj)
 obtain⟨_,b,r,ar,c,_,f⟩:=h.rg.game.row _ v (bJ.1 hj).1 hj
 have i:recP P (π t)=v.Record:=by unfold recP;rw[a]
 rw[i,eH a]
 refine⟨k.rl,?_,?_⟩
 · obtain⟨l,u,_,e⟩:=f.to _ ((om (by rw[cY hx.1];exact c)).1 j)
   unfold recP
   rw[cY l,e]
 · show priL g.Prio (π t)=_
   unfold priL
   rw[cY hx.1,b];rfl
theorem Cx.wins:Par.Wins (gI g) q π:=by
 have c:=h.len.1
 have ha:=h.sol.ans
 rw[c]at ha
 refine ha.wins (n:=P.length) (b:=41) (λv a=>a) (λv a=>?_) hπ
 obtain⟨x,hx⟩:=cT (xs:=g.Prio) a.1 (by rw[c];exact a.2)
 have:=(GOk.of h.ok).pri v x hx
 show 0<=priL g.Prio v/\priL g.Prio v<41
 unfold priL
 rw[hx,Option.getD_some]
 omega
include h0
omit hπ in
theorem Cx.rec0:recP P (π 0)=firstR d.Pairs.length:=by
 rw[h0]
 unfold recP
 rw[show(0:Int)=((0:Nat):Int) from rfl,bT,h.rg.game.zero]
theorem Cx.even (f:q=false){i:Nat}{a:Pair}(hp:d.Pairs[i]? =some a):Well a.Ask a.Give λt=>atP P (π t):=by
 obtain⟨D,b,c,N,e⟩:=h.wins hπ
 have hr:=h.recs hπ
 intro ha
 refine(kI λt=>vL hp _).1 (vJ (rc:=λt=>recP P (π t)) (v:=λt=>atP P (π t)) (λt=>(hr t).1) (λt=>(hr t).2.1) (d:=D) (λN=>?_) (N:=N) (λt ht=>?_) ?_ ?_ ((kI λt=>wv hp _).2 ha))
 · obtain⟨t,g,j⟩:=c N
   exact⟨t,g,(hr t).2.2.symm.trans j⟩
 · rw[← (hr t).2.2];exact e t ht
 · subst f
   unfold Par.oddP at b
   have:=of_decide_eq_false b
   omega
 · show(i:Int)∈recP P (π 0)
   rw[h.rec0 h0]
   exact List.mem_map.2 ⟨i,List.mem_range.2 (bJ.1 hp).1,rfl⟩
end
def alt (x y:Nat->Int) (t:Nat):Int:=if t % 2=0 then x (t / 2) else y (t / 2)
theorem mN (x y:Nat->Int) (t:Nat):alt x y (2 * t)=x t:=by
 unfold alt
 rw[if_pos (by omega),show 2 * t / 2=t by omega]
theorem rL (x y:Nat->Int) (t:Nat):alt x y (2 * t+1)=y t:=by
 unfold alt
 rw[if_neg (by omega),show(2 * t+1) / 2=t by omega]
theorem qW (t:Nat):(∃s,t=2 * s)\/∃s,t=2 * s+1:=by
 by_cases h:t % 2=0
 · exact .inl ⟨t / 2,by omega⟩
 · exact .inr ⟨t / 2,by omega⟩
theorem wI {x y:Nat->Int}{S:Int->Prop}(hy:∀t,¬S (y t)):(Par.Io λt=>S (alt x y t))↔Par.Io λt=>S (x t):=⟨λh N=>by
 obtain⟨t,b,a⟩:=h (2 * N)
 rcases qW t with ⟨s,rfl⟩ | ⟨s,rfl⟩
 · rw[mN]at a
   exact⟨s,by omega,a⟩
 · rw[rL]at a
   exact absurd a (hy s),λh N=>by
 obtain⟨t,b,a⟩:=h N
 exact⟨2 * t,by omega,by show S (alt x y (2 * t));rw[mN];exact a⟩⟩
theorem xt {x y:Nat->Int}{A G:List Int}{P:List Place}(a:∀t,atP P (y t)∉A) (b:∀t,atP P (y t)∉G):(Well A G λt=>atP P (alt x y t))↔Well A G λt=>atP P (x t):=by
 unfold Well
 rw[wI (S:=λz=>atP P z∈A) a,wI (S:=λz=>atP P z∈G) b]
end Go.Proofs.YtleekpaohfpooaaGreat
