/- The recorded contest: where one comes to. Plain law. -/
import Derived.Test.YtleekpaohfpooaaGreatL1FW
import Derived.Test.YtleekpaohfpooaaGreatL0FW
set_option linter.unusedVariables false
set_option linter.unusedSimpArgs false
open Option renaming bind_some → bI
open List renaming getElem?_eq_getElem → bJ, getElem?_eq_some_iff → bK, replicate → bO, mem_of_getElem? → bQ, getElem?_replicate → hV, length_append → z5, mem_singleton → z6, length_take → z9, length_nil → Aa, mem_append → Ad, length_map → Ah
open Bool renaming and_eq_true → sh, not_true → zZ
open Int renaming toNat_natCast → z7
namespace Go.Proofs.YtleekpaohfpooaaGreat
open Go Go.Wk Go.Proofs
def atP (P:List Place) (y:Int):Int:=match idx P y with | some v=>v.At | none=> -1
theorem db {P:List Place}{y:Int}{v:Place}(h:idx P y=some v):atP P y=v.At:=by unfold atP;rw[h]
structure Cx (d:Det) (n m k:Nat) (A:Arena) (P:List Place) (g:Parity) (W:Int->Prop) (pk:List Int):Prop where
 n1:1<=n
 n48:n<=48
 m1:1<=m
 m4:m<=4
 k1:1<=k
 k4:k<=4
 dl:d.Next.length=n
 cell:∀row∈d.Next,RowIn (n:Int) ((m * k:Nat):Int) row
 con:ConA d n m k A
 rg:RecG A d.Pairs ⟨0,firstR d.Pairs.length⟩ P g
 ok:c9 g=true
 sol:Solv g W pk
section
variable {d:Det}{n m k:Nat}{A:Arena}{P:List Place}{g:Parity}{W:Int->Prop}{pk:List Int}(h:Cx d n m k A P g W pk)
include h
theorem Cx.len:g.Prio.length=P.length/\g.Arena.Owner.length=P.length/\g.Arena.Next.length=P.length/\P.length<=256/\1<=P.length/\pk.length=P.length:=by
 have r:=h.rg.game
 have h1:=r.ol
 have h2:=r.nl
 have a:=r.ql
 have b:=h.sol.len
 have c:=(bK.1 r.zero).1
 exact⟨a,h1,h2,h.rg.le,by omega,by omega⟩
theorem Cx.place {x:Int}(hx:Xn P.length x):∃v,idx P x=some v/\0<=v.At/\v.At<((n+n * m:Nat):Int):=by
 obtain⟨v,a,hm⟩:=gK (xs:=P) hx.1 hx.2
 have o:=h.rg.game.inn v hm
 have h2:=o.a1
 rw[h.con.ol,z5,List.length_replicate,List.length_replicate]at h2
 exact⟨v,a,o.a0,h2⟩
theorem Cx.row {x:Int}{v:Place}(a:idx P x=some v):∃r ar rc,idx g.Arena.Next x=some r/\idx A.Next v.At=some ar/\RowP P ar rc r/\idx g.Arena.Owner x=idx A.Owner v.At/\r.length<=16:=by
 obtain⟨k,l⟩:=(c8 a)
 obtain⟨i,f⟩:=cY k
 subst f
 rw[bS]at a
 have j:=(bK.1 a).1
 obtain⟨c,_,r,ar,b,d,e⟩:=h.rg.game.row i v j a
 refine⟨r,ar,_,by rw[bS];exact b,d,e,by rw[bS];exact c,?_⟩
 have:=(eS h.ok).2.2.2.2 i r b
 exact this.2.1
omit h in
theorem kA {x y:Int}{r:List Int}(hr:idx g.Arena.Next x=some r):(gI g).E x y↔y∈r:=by
 show y∈eB g.Arena x↔_
 rw[fh hr]
theorem Cx.state {x:Int}{v:Place}(c:idx P x=some v) (hs:v.At<(n:Int)):(gI g).own x=true/\∃(q:Nat) (r:List Int),v.At=(q:Int)/\q<n/\idx g.Arena.Next x=some r/\(∀y∈r,Xn P.length y/\∃i:Nat,i<m/\atP P y=((n+(q * m+i):Nat):Int))/\∀i:Nat,i<m->∃y∈r,atP P y=((n+(q * m+i):Nat):Int):=by
 obtain⟨B,k,p,_⟩:=h.place (x:=x) ⟨(c8 c).1,(c8 c).2.1⟩
 rw[c]at k
 cases k
 obtain⟨q,j⟩:=cY p
 have a:q<n:=by omega
 obtain⟨r,ar,rc,w,l,o,z,_⟩:=h.row c
 have s:ar=rowQ n m q:=by
  rw[j,bS,h.con.r1 q a]at l
  exact(Option.some.inj l).symm
 subst s
 have t:idx g.Arena.Owner x=some 1:=by
  rw[z,j,bS,h.con.ol,List.getElem?_append_left (by simpa using a),hV,if_pos a]
 refine⟨?_,q,r,j,a,w,λy hy=>?_,λi f=>?_⟩
 · show ownL _ x=true
   unfold ownL
   rw[t];rfl
 · obtain⟨d,u,b,e⟩:=o.to y hy
   have A:=(bK.1 e).1
   unfold rowQ at b
   obtain⟨i,f,b⟩:=List.mem_map.1 b
   refine⟨⟨d,by omega⟩,i,List.mem_range.1 f,?_⟩
   rw[db (by rw[cz d];exact e),← b,Nat.add_assoc]
 · obtain⟨y,hy,d,e⟩:=o.has ((n+q * m+i:Nat):Int) (by unfold rowQ;exact List.mem_map.2 ⟨i,List.mem_range.2 f,rfl⟩)
   refine⟨y,hy,?_⟩
   rw[db (by rw[cz d];exact e),Nat.add_assoc]
theorem Cx.mid {y:Int}(hy:Xn P.length y){q i:Nat}(j:q<n) (hi:i<m) (ha:atP P y=((n+(q * m+i):Nat):Int)):(gI g).own y=false/\∃r,idx g.Arena.Next y=some r/\(∀z∈r,Xn P.length z/\∃o:Nat,o<k/\atP P z=tab d.Next q ((o * m+i:Nat):Int))/\∀o:Nat,o<k->∃z∈r,atP P z=tab d.Next q ((o * m+i:Nat):Int):=by
 obtain⟨v,l,_,_⟩:=h.place hy
 rw[db l]at ha
 obtain⟨r,ar,rc,C,p,s,D,_⟩:=h.row l
 have A:=qH (n:=n) j hi
 obtain⟨w,E,F,t⟩:=h.con.r0 q i j hi
 have x:ar=w:=by
  rw[ha,bS,E]at p
  exact(Option.some.inj p).symm
 subst x
 have B:idx g.Arena.Owner y=some 0:=by
  rw[D,ha,bS,h.con.ol,List.getElem?_append_right (by simp),List.length_replicate,Nat.add_sub_cancel_left,hV,if_pos A]
 refine⟨?_,r,C,λz f=>?_,λo b=>?_⟩
 · show ownL _ y=false
   unfold ownL
   rw[B];rfl
 · obtain⟨a,u,c,e⟩:=s.to z f
   have hl:=(bK.1 e).1
   obtain⟨o,b,c⟩:=(t u).1 c
   exact⟨⟨a,by omega⟩,o,b,by rw[db (by rw[cz a];exact e),c]⟩
 · obtain⟨z,f,a,e⟩:=s.has _ ((t _).2 ⟨o,b,rfl⟩)
   exact⟨z,f,by rw[db (by rw[cz a];exact e)]⟩
theorem Cx.cellAt {q i o:Nat}(b:q<n) (hi:i<m) (a:o<k):∃row,idx d.Next (q:Int)=some row/\idx row ((o * m+i:Nat):Int)=some (tab d.Next q ((o * m+i:Nat):Int))/\0<=tab d.Next q ((o * m+i:Nat):Int)/\tab d.Next q ((o * m+i:Nat):Int)<(n:Int):=
 ph h.m1 h.m4 h.dl h.cell b hi a
theorem Cx.mine {x:Int}(hx:Xn P.length x) (c:(gI g).own x=wB W x):∃y,idx pk x=some y/\Xn P.length y/\(gI g).E x y/\wB W y=wB W x:=by
 obtain⟨d,_,_,_,_,e⟩:=h.len
 have ha:=h.sol.ans
 rw[d]at ha
 obtain⟨a1,a2,a,b⟩:=ha.mine x hx c
 obtain⟨y,hy,_⟩:=gK (xs:=pk) hx.1 (by have:=hx.2;omega)
 rw[nv hy]at a1 a2 a b
 exact⟨y,hy,a,a2,b⟩
theorem Cx.yours {x y:Int}(hx:Xn P.length x) (b:¬(gI g).own x=wB W x) (a:(gI g).E x y) (hy:Xn P.length y):wB W y=wB W x:=by
 obtain⟨c,_⟩:=h.len
 have ha:=h.sol.ans
 rw[c]at ha
 exact ha.yours x y hx b a hy
end
def toP (P:List Place) (r:List Int) (z:Int):Option Nat:=r.findIdx? λy=>atP P y==z
theorem xt {P:List Place}{r:List Int}{z:Int}(h:∃y∈r,atP P y=z):∃j y,toP P r z=some j/\r[j]? =some y/\atP P y=z:=by
 obtain⟨y,hy,e⟩:=h
 cases hf:toP P r z with
 | none=>
  unfold toP at hf
  rw[List.findIdx?_eq_none_iff]at hf
  have:=hf y hy
  simp[e]at this
 | some j=>
  unfold toP at hf
  obtain⟨h1,h2,_⟩:=List.findIdx?_eq_some_iff_getElem.1 hf
  exact⟨j,r[j],rfl,bJ h1,by simpa using h2⟩
def tgt (P:List Place) (r:List Int) (z:Int):Int:=match toP P r z with | some j=>r.getD j 0 | none=> -1
theorem ss {P:List Place}{r:List Int}{z:Int}(h:∃y∈r,atP P y=z):tgt P r z∈r/\atP P (tgt P r z)=z/\∃j:Nat,toP P r z=some j/\r[j]? =some (tgt P r z):=by
 obtain⟨j,y,h1,h2,a⟩:=xt h
 have e:tgt P r z=y:=by
  unfold tgt
  rw[h1]
  show r.getD j 0=y
  rw[List.getD_eq_getElem?_getD,h2];rfl
 rw[e]
 exact⟨bQ h2,a,j,h1,h2⟩
def dr (f:Nat->Int) (F:List Int):Nat->List Int×List Int
 | 0=>(F,[])
 | j+1=>(addN (dr f F j).1 (f j),(dr f F j).2++[cO (addN (dr f F j).1 (f j)) (f j)])
theorem qQ {F:List Int}{t:Int}(h:t∈F):0<=cO F t/\cO F t<(F.length:Int):=by
 unfold cO
 cases hf:F.findIdx? (λx=>t==x) with
 | none=>
  rw[List.findIdx?_eq_none_iff]at hf
  have:=hf t h
  simp at this
 | some i=>
  obtain⟨h1,_⟩:=List.findIdx?_eq_some_iff_getElem.1 hf
  dsimp only
  omega
theorem sy {F:List Int}{t:Int}:t∈addN F t:=by
 unfold addN
 by_cases h:t∈F
 · rw[if_pos h];exact h
 · rw[if_neg h];simp
theorem wg {F:List Int}{t x:Int}(h:x∈addN F t):x∈F\/x=t:=by
 unfold addN at h
 by_cases ht:t∈F
 · rw[if_pos ht]at h;exact .inl h
 · rw[if_neg ht]at h;simpa using h
structure NmRow (N:Nat) (F:List Int) (j:Nat) (Q:Int->Prop) (F' row:List Int):Prop where
 nm:Names N F'
 pre:∀(i:Nat) v,F[i]? =some v->F'[i]? =some v
 len:F.length<=F'.length
 le:F'.length<=F.length+j
 rl:row.length=j
 rin:∀x∈row,0<=x/\x<(F'.length:Int)
 all:∀x∈F',Q x
theorem sZ {N:Nat}{F:List Int}{Q:Int->Prop}(a:Names N F) (b:∀x∈F,Q x){f:Nat->Int}{c:Nat}(hf:∀j,j<c->0<=f j/\f j<(N:Int)/\Q (f j)):∀j,j<=c->NmRow N F j Q (dr f F j).1 (dr f F j).2
 | 0,_=>⟨a,λ_ _ h=>h,Nat.le_refl _,Nat.le_refl _,rfl,λx hx=>(by cases hx),b⟩
 | j+1,hj=>by
  have r:=sZ a b hf j (by omega)
  obtain⟨d,e,g⟩:=hf j (by omega)
  unfold dr
  generalize dr f F j=G at *
  obtain⟨a1,a2⟩:=r.nm.add d e
  have l:G.1.length<=(addN G.1 (f j)).length/\(addN G.1 (f j)).length<=G.1.length+1:=by
   unfold addN
   by_cases h:f j∈G.1
   · rw[if_pos h];omega
   · rw[if_neg h,z5];simp
  have h1:=r.len
  have h2:=r.le
  have hm:=qQ (sy (F:=G.1) (t:=f j))
  refine⟨a1,λi v k=>a2 i v (r.pre i v k),by dsimp only;omega,by dsimp only;omega,by simp[r.rl],λx hx=>?_,λx hx=>?_⟩
  · rcases Ad.1 hx with hx | hx
    · have:=r.rin x hx
      dsimp only;omega
    · rw[z6.1 hx];exact hm
  · rcases wg hx with hx | hx
    · exact r.all x hx
    · rw[hx];exact g
end Go.Proofs.YtleekpaohfpooaaGreat
set_option linter.unusedVariables false
set_option linter.unusedSimpArgs false
namespace Go.Proofs.YtleekpaohfpooaaGreat
open Go Go.Wk Go.Proofs
end Go.Proofs.YtleekpaohfpooaaGreat
set_option linter.unusedVariables false
set_option linter.unusedSimpArgs false
namespace Go.Proofs.YtleekpaohfpooaaGreat
open Go Go.Wk Go.Proofs
open Classical in
theorem zU {g:Parity}{n:Nat}(h:GOk g n) (hr:∀v r,idx g.Arena.Next v=some r->r≠[]):∃W,jn g=some (wonL n W)/\Par.Sol (gI g) (λv=>0<=v/\v<n) false W:=by
 have hn:=h.n256
 have m:=pM h hr
 obtain⟨P,p,q⟩:=vo h
 have b:=xI h P
 have a:In (bO n true)=λv:Int=>0<=v/\v<n:=funext λv=>propext (yJ v)
 obtain⟨R,w,x,d⟩:=yH (h.wfS q (k:=bO n (-1)) (by simp)) h.pri n (bO n true) (2 ^ 64) (by simp) (by rw[a,b];exact m) (by have:=lG (bO n true);simp at this;exact this) (by omega)
 rw[b,a]at d
 obtain⟨W,hW⟩:∃W:Int->Prop,W=In R:=⟨_,rfl⟩
 have o:∀v,In R v↔W v:=λv=>by rw[hW]
 refine⟨W,?_,by rw[hW];exact d⟩
 unfold jn
 rw[p,bI,yM h,bI,w,bI,x]
 obtain⟨s,h1,h2,l⟩:=cv (f:=kz R) (λj (s:List Int)=>s.length=j/\∀i:Nat,i<j->s[i]? =some (b2i (decide (¬W (i:Int))))) n (s:=[]) ⟨rfl,λi c=>absurd c (Nat.not_lt_zero i)⟩ (λj s hj ⟨t,u⟩=>by
  unfold kz
  rw[dz (B:=R) (by omega) (by omega),bI]
  have hf:iF (decide (In R (j:Int)))=some (b2i (decide (In R (j:Int)))):=by
   unfold iF
   cases decide (In R (j:Int)) <;> rfl
  rw[hf,bI,qF,app1 (by omega) rfl,bI]
  refine⟨_,rfl,by rw[z5];simp;omega,λi c=>?_⟩
  by_cases e:i<j
  · rw[List.getElem?_append_left (by omega)];exact u i e
  · have:i=j:=by omega
    subst this
    rw[List.getElem?_append_right (by omega),t,Nat.sub_self]
    show some _=some _
    congr 2
    rw[← decide_not]
    exact decide_eq_decide.2 (not_congr (o _)))
 rw[h1,bI,bV,yA h2 l]
section
variable {g:Parity}{n:Nat}(hp:c9 g=true) (hn:n=g.Prio.length){W:Int->Prop}(hW:Par.Sol (gI g) (Xn n) false W)
include hp hn hW
theorem yy (E:jn g=some (wonL n W)):∃k,ki g (bO n (-1))=some (⟨wonL n W,k⟩,true)/\k.length=n/\(∀v x,idx k v=some x->x= -1\/0<=x)/\Par.Ans (gI g) (Xn n) (wB W) (pkL k):=by
 have h:=GOk.of hp
 rw[← hn]at h
 have G:=h.n256
 have ad:=qg n W
 obtain⟨P,ae,af⟩:=vo h
 obtain⟨B0,c1,c2,K⟩:=tG (W:=W) G false
 obtain⟨B1,q,L,M⟩:=tG (W:=W) G true
 have c1:fQ (wonL n W) 0=some B0:=c1
 have q:fQ (wonL n W) 1=some B1:=q
 unfold ki
 rw[ua hp hn E (by omega),bI,E,ae,List.length_replicate]
 simp only[zZ,cond_false,bI,List.nil_append,List.length_replicate,ad]
 obtain⟨ao,N,O⟩:=cv (f:=gp g (bO n (-1)) (wonL n W)) (λj (s:List Int)=>s=bO n (-1)) n (s:=bO n (-1)) rfl (λj s hj hs=>by
  subst hs
  have hk:idx (bO n (-1:Int)) (j:Int)=some (-1):=by rw[bS,hV,if_pos hj]
  unfold gp
  rw[hk]
  simp only[bI,show((-1:Int) != -1)=false from rfl,cond_false]
  rw[qc (by simp;omega),bI]
  refine⟨_,rfl,?_⟩
  apply List.ext_getElem?
  intro i
  rw[List.getElem?_set]
  simp only[hV,List.length_replicate]
  split
  · rename_i e;subst e;rw[if_pos hj]
  · rfl)
 subst O
 rw[N,bI,bV,c1,bI,q,bI]
 obtain⟨s,Q,R,S,ak,T,U⟩:=cv (f:=gt g (wonL n W) ⟨g.Arena.Owner,g.Prio,g.Arena.Next,P,bO n (-1)⟩ B0 B1) (λj (s:List Int)=>s.length=n/\Par.PInv (gI g) (Xn n) (wB W) (pkL s)/\(∀i:Nat,j<=i->pkL s i= -1)/\(∀v,Xn n v->v<j->(gI g).own v=wB W v->0<=pkL s v)/\(∀v x,idx s v=some x->x= -1\/0<=x)) n (s:=bO n (-1)) ⟨by simp,Par.PInv.start hW (λv _=>xu) (λv=>by rw[nu];decide),λi _=>nu _,λv b hj=>by have:=b.1;omega,λv x hx=> .inl (by rw[← nv hx];exact nu v)⟩ (λj s hj ⟨m,o,p,A,D⟩=>by
  have b:Xn n (j:Int):=⟨by omega,by omega⟩
  have F:=nS m b.1 b.2
  rw[p j (Nat.le_refl j)]at F
  unfold gt
  rw[F,qf b,vb h b]
  simp only[bI,show decide ((0:Int)<= -1)=false from rfl,cond_false]
  by_cases d:(gI g).own (j:Int)=wB W (j:Int)
  · -- a pick
    obtain⟨row,hr⟩:=cF (xs:=g.Arena.Next) (i:=(j:Int)) (by omega) (by have:=h.ln;omega)
    obtain⟨u,ag,ap,ah,ai⟩:=o.ex b d (by rw[p j (Nat.le_refl j)];decide)
    obtain⟨i,u,h1,h2,V⟩:=sL (row:=row) (C:=λu=>wB W u=wB W (j:Int)/\Par.Dom (Par.pickG (gI g) (Par.updF (pkL s) j u)) (Par.Rg (Xn n) (wB W) (wB W j)) (wB W j) (Par.Rg (Xn n) (wB W) (wB W j))) ⟨u,by have:u∈eB g.Arena j:=ag;rwa [fh hr]at this,ah,ai⟩
    have H:(gI g).E (j:Int) u:=by show u∈eB g.Arena j;rw[fh hr];exact bQ h1
    have t:=(zH h H).2
    obtain⟨B,X,Y,Z⟩:∃B,(bif (b2i (wB W (j:Int))==1) then some B1 else some B0)=some B/\B.length=n/\In B=Par.Rg (Xn n) (wB W) (wB W j):=by
     cases al:wB W (j:Int) with
     | true=>exact⟨B1,rfl,L,M⟩
     | false=>exact⟨B0,rfl,c2,K⟩
    obtain⟨k',k1,J,l⟩:=zB hp hn af m o b d hr h1 h2 V Y Z
    have r:(b2i (wB W (j:Int)) !=b2i ((gI g).own (j:Int)))=false:=by rw[d];simp
    obtain⟨an,ab⟩:=cF (xs:=k') (i:=(j:Int)) (by omega) (by omega)
    obtain⟨z,I,am⟩:=dy (xs:=k') (i:=(j:Int)) u (by omega) (by omega)
    have:z=k':=yf (n:=n) (by omega) J (by rw[vd I,l,re])
    subst this
    rw[r,cond_false,X,bI,k1,bI]
    dsimp only
    rw[ab,bI,I,bI]
    refine⟨_,rfl,J,?_,λy aa=>?_,λv w ac c=>?_,λv x hx=>?_⟩
    · rw[l];exact o.step b d H t h2.1 h2.2
    · rw[l]
      unfold Par.updF
      rw[if_neg (by omega)]
      exact p y (by omega)
    · rw[l]
      unfold Par.updF
      by_cases e:v=j
      · rw[if_pos e];exact t.1
      · rw[if_neg e];exact A v w (by omega) c
    · have:=nv hx
      rw[l]at this
      unfold Par.updF at this
      by_cases e:v=j
      · rw[if_pos e]at this;rw[← this];exact .inr t.1
      · rw[if_neg e]at this
        obtain⟨aj,aq⟩:=cX hx
        have hs:=nS m aj (by omega)
        rw[this]at hs
        exact D v x hs
  · have r:(b2i (wB W (j:Int)) !=b2i ((gI g).own (j:Int)))=true:=by
     unfold bne;rw[uK]
     cases hx:wB W (j:Int) <;> cases hy:(gI g).own (j:Int) <;> simp_all
    rw[r,cond_true]
    refine⟨_,rfl,m,o,λy aa=>p y (by omega),λv w ac c=>?_,D⟩
    have:v≠j:=λe=>d (by rw[← e];exact c)
    exact A v w (by omega) c)
 rw[Q,bI,bV]
 exact⟨s,rfl,R,U,S.ans λv b c=>T v b b.2 c⟩
end
theorem we {g:Parity}(hp:c9 g=true):∃W k,kZ g=some ⟨wonL g.Prio.length W,k⟩/\jn g=some (wonL g.Prio.length W)/\Solv g W k:=by
 have h:=GOk.of hp
 obtain⟨W,a1,a⟩:=zU h (qY hp)
 obtain⟨k,k1,b,c,d⟩:=yy hp rfl a a1
 refine⟨W,k,?_,a1,a,b,c,d⟩
 unfold kZ
 rw[nc,hp,bI,zZ,cond_false,tA h.n256,bI,k1];rfl
end Go.Proofs.YtleekpaohfpooaaGreat
set_option linter.unusedVariables false
set_option linter.unusedSimpArgs false
namespace Go.Proofs.YtleekpaohfpooaaGreat
open Go Go.Wk Go.Proofs
section
variable {p:Sig}{d:Det}(hs:sigOk p=true){n m k:Nat}(hn:n<=48) (hn1:1<=n) (hm:pw p.In=(m:Int)) (hk:pw p.Out=(k:Int)) (hd:d.Next.length=n) (hD:∀row∈d.Next,RowIn (n:Int) ((m * k:Nat):Int) row)
include hs hn hm hk hd hD
omit hs hk hD in
theorem sI:cntM (ej d (m:Int)) n 0 ([],[])=some (.inr (bO n 1,(List.range n).map (rowQ n m))):=by
 have k:=gk p.In
 have hr:rng (m:Int)=some ():=by unfold rng;rw[if_pos (by omega)]
 have a:∀q:Nat,q<n->cntM (ek d (m:Int) q) m 0 []=some (.inr (rowQ n m q)):=λq g=>by
  have hb:q * m<=48 * 4:=Nat.mul_le_mul (by omega) (by omega)
  have e:(q:Int) * (m:Int)=((q * m:Nat):Int):=by simp
  have c:∀j:Nat,j<m->IntKind.i64.wrap (IntKind.i64.wrap ((d.Next.length:Int)+IntKind.i64.wrap ((q:Int) * (m:Int)))+(j:Int))=((n+q * m+j:Nat):Int):=λj hj=>by
   rw[e,wr' (z:=((q * m:Nat):Int)) (by omega) (by omega),wr' (z:=(d.Next.length:Int)+((q * m:Nat):Int)) (by omega) (by omega),wr' (by omega) (by omega)]
   omega
  have hl:∀j:Nat,((List.range j).map λi=>((n+q * m+i:Nat):Int)).length=j:=λj=>by rw[Ah,List.length_range]
  obtain⟨s,h1,h2⟩:=cv (f:=ek d (m:Int) q) (λj s=>s=(List.range j).map λi=>((n+q * m+i:Nat):Int)) m (s:=[]) rfl (λj s hj e=>by
   subst e
   unfold ek
   rw[c j hj,app1 (by rw[hl];omega) rfl]
   exact⟨_,rfl,by rw[List.range_succ,List.map_append];rfl⟩)
  rw[h1,h2];rfl
 have b:Int.toNat ((m:Int)-0)=m:=by omega
 obtain⟨s,h1,h2⟩:=cv (f:=ej d (m:Int)) (λj s=>s=(bO j 1,(List.range j).map (rowQ n m))) n (s:=([],[])) rfl (λj s hj e=>by
  subst e
  unfold ej
  dsimp only
  rw[hr,bI,b,a j hj,bI,bV,app1 (by simp;omega) rfl,bI,app1 (by simp;omega) rfl,bI]
  exact⟨_,rfl,by rw[List.replicate_succ',List.range_succ,List.map_append];rfl⟩)
 rw[h1,h2]
theorem rz:∃s,cntM (el p d (m:Int)) n 0 (bO n 1,(List.range n).map (rowQ n m))=some (.inr s)/\ConR d n m k (n * m) s:=by
 have N:=gk p.In
 have k1:=gk p.Out
 have hr:rng (m:Int)=some ():=by unfold rng;rw[if_pos (by omega)]
 have C:Int.toNat ((m:Int)-0)=m:=by omega
 have K:n * m<=48 * 4:=Nat.mul_le_mul hn (by omega)
 obtain⟨s,h1,B⟩:=cv (f:=el p d (m:Int)) (λq s=>ConR d n m k (q * m) s) n (s:=(bO n 1,(List.range n).map (rowQ n m))) (by rw[Nat.zero_mul];exact⟨by simp,[],by simp,rfl,λq i _ _ h=>absurd h (Nat.not_lt_zero _)⟩) (λq s o g=>by
  obtain⟨H,y,A⟩:=cv (f:=em p d q) (λi s=>ConR d n m k (q * m+i) s) m (s:=s) g (λi s j g=>by
   obtain⟨c1,R,c2,c,v⟩:=g
   obtain⟨r,F,G⟩:=yw hs hm hk hd hD o j
   have I:=qH (n:=n) o j
   have L:s.1.length=n+(q * m+i):=by rw[c1];simp
   have M:s.2.length=n+(q * m+i):=by rw[c2];simp[c]
   unfold em
   rw[app1 (xs:=s.1) (by omega) rfl,F]
   simp only[bI]
   rw[app1 (xs:=s.2) (by omega) rfl]
   refine⟨_,rfl,?_,R++[r],?_,by rw[z5,c];rfl,λu t D l J=>?_⟩
   · dsimp only
     rw[c1,← Nat.add_assoc,List.replicate_succ',List.append_assoc]
   · dsimp only
     rw[c2,List.append_assoc]
   · by_cases e:u * m+t=q * m+i
     · obtain⟨w,x⟩:=yO l j e
       subst w x
       exact⟨r,by rw[← c];simp,G⟩
     · obtain⟨E,a,b⟩:=v u t D l (by omega)
       exact⟨E,by rw[List.getElem?_append_left (by omega)];exact a,b⟩)
  unfold el
  rw[hr,bI,C]
  have z:cntM (em p d q) m 0 (s.1,s.2)=some (.inr H):=y
  rw[z,bI,bV]
  exact⟨_,rfl,by rw[Nat.add_mul,Nat.one_mul];exact A⟩)
 exact⟨s,h1,B⟩
end
theorem sJ {ps:List Pair}(hl:ps.length<=4) (hb:∀x∈ps,x.Ask.length<=1000000000/\x.Give.length<=1000000000) (X:Det) (d:X.Pairs=ps):cntM (en X) ps.length 0 []=some (.inr ps):=by
 obtain⟨s,h1,h2⟩:=cv (f:=en X) (λj s=>s=ps.take j) ps.length (s:=[]) rfl (λj s hj e=>by
  subst e
  have hx:ps[j]? =some ps[j]:=bJ hj
  generalize ps[j]=x at hx
  obtain⟨b,c⟩:=hb x (bQ hx)
  have a:∀{xs:List Int},xs.length<=1000000000->dA xs=some xs:=λ{xs} h=>by
   unfold dA
   rw[appL (by rw[Aa];omega) rfl];rfl
  unfold en
  rw[d,bS,hx,bI,bI,a b,bI,a c,bI,app1 (by rw[z9];omega) rfl]
  exact⟨_,rfl,by rw[List.take_add_one,hx];rfl⟩)
 rw[h1,h2,List.take_length]
theorem vy {p:Sig}{d:Det}(hs:sigOk p=true) (hd:detOk p d=true):∃(n m k:Nat) (A:Arena),d.Next.length=n/\pw p.In=(m:Int)/\pw p.Out=(k:Int)/\1<=n/\n<=48/\1<=m/\m<=4/\1<=k/\k<=4/\(∀row∈d.Next,RowIn (n:Int) ((m * k:Nat):Int) row)/\(∀x∈d.Pairs,x.Ask.length<=1000000000/\x.Give.length<=1000000000)/\ConA d n m k A/\g9 p d=some (A,d.Pairs,true):=by
 obtain⟨h1,h2,j,l⟩:=dc hd
 have w:=gk p.In
 have k1:=gk p.Out
 obtain⟨m,hm⟩:=cY (z:=pw p.In) (by omega)
 obtain⟨k,hk⟩:=cY (z:=pw p.Out) (by omega)
 have hb:∀x∈d.Pairs,x.Ask.length<=1000000000/\x.Give.length<=1000000000:=λx hx=>by
  have b:=hd
  unfold detOk at b
  simp only[sh]at b
  have hp:=b.1.2
  unfold pairsOk at hp
  rw[sh,List.all_eq_true]at hp
  have:=hp.2 x hx
  unfold pairOk at this
  rw[sh]at this
  have a1:=(St.of this.1).len
  have a2:=(St.of this.2).len
  omega
 have hD:∀row∈d.Next,RowIn (d.Next.length:Int) ((m * k:Nat):Int) row:=λrow hr=>by
  have:=l row hr
  unfold ltd at this
  rw[hm,hk]at this
  simpa using this
 have g:=sI h2 hm rfl
 obtain⟨s,v,c1,R,c2,e,f⟩:=rz hs h2 hm hk rfl hD
 have o:=sJ j hb d rfl
 refine⟨d.Next.length,m,k,⟨s.1,s.2⟩,rfl,hm,hk,h1,h2,by omega,by omega,by omega,by omega,hD,hb,⟨c1,?_,λq a=>?_,λq i a c=>?_⟩,?_⟩
 · show s.2.length=_
   rw[c2];simp[e]
 · show s.2[q]? =_
   rw[c2,List.getElem?_append_left (by simpa using a),List.getElem?_map,List.getElem?_range a];rfl
 · obtain⟨r,t,u⟩:=f q i a c (qH a c)
   refine⟨r,?_,u⟩
   show s.2[_]? =_
   rw[c2,List.getElem?_append_right (by simp),Ah,List.length_range,Nat.add_sub_cancel_left]
   exact t
 · unfold g9
   rw[hU hs hb,hd,bI,zZ,cond_false,mv hs,bI,hm,g,bI,bV]
   dsimp only
   rw[v,bI,bV,o];rfl
end Go.Proofs.YtleekpaohfpooaaGreat
set_option linter.unusedVariables false
set_option linter.unusedSimpArgs false
namespace Go.Proofs.YtleekpaohfpooaaGreat
open Go Go.Wk Go.Proofs
section
variable {a:Arena}{ps:List Pair}{st:Place}(ha:eH a=true) (hk:ps.length<=4)
include ha hk
theorem uq (A:VOk a.Owner.length ps.length st):(bU (dY a ps) (2 ^ 64) ([st],0,[],[],[])=some (.inl noRec)/\ManyP a.Owner.length ps.length) \/
 ∃s:List Place×Int×List Int×List (List Int)×List Int,bU (dY a ps) (2 ^ 64) ([st],0,[],[],[])=some (.inr s)/\RecG a ps st s.1 ⟨⟨s.2.2.1,s.2.2.2.1⟩,s.2.2.2.2⟩:=by
 obtain⟨_,_,_,_,n⟩:=qE ha
 obtain⟨o,w1,e⟩:=cC (f:=dY a ps) (λi s=>s.2.1=(i:Int)/\RecS a ps st s.1 i s.2.2.1 s.2.2.2.1 s.2.2.2.2/\s.1.length<=256) (λr=>r=noRec/\ManyP a.Owner.length ps.length)
  (λs=>RecG a ps st s.1 ⟨⟨s.2.2.1,s.2.2.2.1⟩,s.2.2.2.2⟩) 256 (λi s ⟨l,b,hl⟩=>by
  obtain⟨P,z,O,N,Q⟩:=s
  dsimp only at l b hl
  subst l
  unfold dY
  dsimp only
  by_cases u:i<P.length
  · have d:P[i]? =some P[i]:=bJ u
    generalize P[i]=v at d
    have c:=b.inn v (bQ d)
    obtain⟨ar,X,har,m,W,B,q,t⟩:=n v.At c.a0 c.a1
    have V:=c.rl
    have w:=y7 (ps:=ps) (rc:=v.Record) c.rin (by omega) v.At
    have y:=zb (ps:=ps) (rc:=v.Record) c.rin (by omega) v.At
    have U:=sX ps v.At c.rl c.rin
    obtain⟨C,J,K⟩:=zD (a:=a) (v:=v) (ar:=ar) (rc:=iv ps v.Record v.At) (P:=P) har B (by omega) hl
    have x:=uw (ar:=ar) (rc:=iv ps v.Record v.At) (P:=P) (gT q)
    have E:=mM (kyR ar (iv ps v.Record v.At)) P ar.length
    have hrl:=E.rl
    obtain⟨S,F,G,H,I⟩:=xo x (by omega)
    have g:=b.step d har t m G (by rw[H,hrl]) I
    have L:=b.ol
    have M:=b.nl
    have R:=b.ql
    rw[decide_eq_true (show(i:Int)<(P.length:Int) by omega),cond_true,bS,d,bI,w,bI,J,bI]
    match C,K with
    | .inl r,⟨j,k⟩=>
     subst j
     exact⟨_,rfl,rfl,_,k,g.nod,g.inn⟩
    | .inr s,⟨j,k,D⟩=>
     rw[bV,j,k,m,bI]
     rw[app1 (xs:=O) (by omega) rfl,bI,F,bI,app1 (xs:=N) (by omega) rfl,bI,y,bI,app1 (xs:=Q) (by omega) rfl,bI,wr' (by omega) (by omega)]
     exact⟨_,rfl,by omega,by dsimp only;omega,g,D⟩
  · rw[decide_eq_false (show ¬(i:Int)<(P.length:Int) by omega),cond_false]
    have T:=b.il
    have:i=P.length:=by omega
    subst this
    exact⟨_,rfl,b,hl⟩) (2 ^ 64) 0 ([st],0,[],[],[]) (by omega) ⟨rfl,RecS.init A,by simp⟩ (by omega)
 match o,e with
 | .inl r,e=>exact .inl ⟨by rw[w1,e.1],e.2⟩
 | .inr s,p=>exact .inr ⟨s,w1,p⟩
end
theorem tO {a:Arena}{ps:List Pair}{st:Int}(ha:eH a=true) (hp:pairsOk ps (a.Owner.length:Int)=true) (hb:∀x∈ps,x.Ask.length<=1000000000/\x.Give.length<=1000000000) (h0:0<=st) (h1:st<(a.Owner.length:Int)):
 (gM a ps st=some noRec/\ManyP a.Owner.length ps.length)\/∃P g,RecG a ps ⟨st,firstR ps.length⟩ P g/\c9 g=true/\gM a ps st=some (g,P,true):=by
 obtain⟨l,m,f,j,_⟩:=qE ha
 have hk:ps.length<=4:=by
  unfold pairsOk at hp
  rw[sh,decide_eq_true_eq]at hp
  omega
 have hf:cntM dX ps.length 0 []=some (.inr (firstR ps.length)):=(xH ps.length).resolve_right (by omega)
 have d:VOk a.Owner.length ps.length ⟨st,firstR ps.length⟩:=⟨h0,h1,by unfold firstR;rw[Ah,List.length_range],λx hx=>by
  unfold firstR at hx
  obtain⟨i,c,e⟩:=List.mem_map.1 hx
  have:=List.mem_range.1 c
  have e:(i:Int)=x:=e
  omega,rA _⟩
 unfold gM
 rw[nX,ha,bI,zZ,cond_false,na (by omega) (by omega) hb,hp,bI,bI,zZ,cond_false,cV,wr' (by omega) (by omega),decide_eq_true h0,decide_eq_true (show st<=(a.Owner.length:Int)-1 by omega),Bool.and_self,bI,bI,zZ,cond_false,hf,bI,bV]
 rcases uq ha hk d with ⟨w1,k⟩ | ⟨s,w1,b⟩
 · left
   rw[w1]
   exact⟨rfl,k⟩
 · right
   rw[w1]
   exact⟨s.1,_,b,b.ok ha j f hk,rfl⟩
end Go.Proofs.YtleekpaohfpooaaGreat
set_option linter.unusedVariables false
set_option linter.unusedSimpArgs false
namespace Go.Proofs.YtleekpaohfpooaaGreat
open Go Go.Wk Go.Proofs
section
variable {xs:List Pair}{n:Int}(h0:0<=n) (h1:n<=256) (hb:∀x∈xs,x.Ask.length<=1000000000/\x.Give.length<=1000000000)
include h0 h1 hb
end
end Go.Proofs.YtleekpaohfpooaaGreat
set_option linter.unusedVariables false
set_option linter.unusedSimpArgs false
namespace Go.Proofs.YtleekpaohfpooaaGreat
open Go Go.Wk Go.Proofs
section
variable {p:Sig}{d:Det}(hs:sigOk p=true) (hb:∀x∈d.Pairs,x.Ask.length<=1000000000/\x.Give.length<=1000000000)
include hs hb
end
end Go.Proofs.YtleekpaohfpooaaGreat
set_option linter.unusedVariables false
set_option linter.unusedSimpArgs false
namespace Go.Proofs.YtleekpaohfpooaaGreat
open Go Go.Wk Go.Proofs
def outsL (d:Det) (m k q i:Nat) (z:Int):List Int:=((List.range k).filter λo=>tab d.Next q ((o * m+i:Nat):Int)==z).map Int.ofNat
def outF (d:Det) (m k q i:Nat) (z:Int):Int:=(outsL d m k q i z).getD 0 0
theorem vN (d:Det) (m k q i:Nat) (z:Int):(outsL d m k q i z).length<=k:=by
 unfold outsL
 rw[Ah]
 exact Nat.le_trans (List.length_filter_le ..) (by rw[List.length_range];exact Nat.le_refl _)
theorem uk (d:Det) (m j q i:Nat) (z:Int):outsL d m (j+1) q i z=outsL d m j q i z++(if(tab d.Next q ((j * m+i:Nat):Int)==z)=true then[(j:Int)] else[]):=by
 unfold outsL
 rw[List.range_succ,List.filter_append,List.map_append]
 congr 1
 rw[List.filter_cons,List.filter_nil]
 cases tab d.Next q ((j * m+i:Nat):Int)==z <;> rfl
theorem yd {d:Det}{m k q i o:Nat}{z:Int}(a:o<k) (h:z=tab d.Next q ((o * m+i:Nat):Int)):idx (outsL d m k q i z) 0=some (outF d m k q i z)/\0<=outF d m k q i z/\outF d m k q i z<(k:Int):=by
 have hm:(o:Int)∈outsL d m k q i z:=List.mem_map.2 ⟨o,List.mem_filter.2 ⟨List.mem_range.2 a,by simp[h]⟩,rfl⟩
 have hl:=List.length_pos_of_mem hm
 have hx:(outsL d m k q i z)[0]? =some ((outsL d m k q i z)[0]'hl):=bJ hl
 have e:outF d m k q i z=(outsL d m k q i z)[0]'hl:=by
  unfold outF
  rw[List.getD_eq_getElem?_getD,hx];rfl
 rw[e]
 refine⟨by rw[show(0:Int)=((0:Nat):Int) from rfl,bS];exact hx,?_⟩
 have:=List.getElem_mem hl
 generalize(outsL d m k q i z)[0]'hl=y at this
 unfold outsL at this
 obtain⟨b,h1,h2⟩:=List.mem_map.1 this
 have:=List.mem_range.1 (List.mem_filter.1 h1).1
 have h2:(b:Int)=y:=h2
 omega
theorem wc {P:List Place}{r:List Int}{z:Int}{j:Nat}(h:toP P r z=some j):r[j]? =some (tgt P r z)/\atP P (tgt P r z)=z/\∀(i:Nat) y,i<j->r[i]? =some y->atP P y≠z:=by
 have b:=h
 unfold toP at h
 obtain⟨h1,h2,c⟩:=List.findIdx?_eq_some_iff_getElem.1 h
 have e:tgt P r z=r[j]:=by
  unfold tgt
  rw[b]
  show r.getD j 0=_
  rw[List.getD_eq_getElem?_getD,bJ h1];rfl
 rw[e]
 refine⟨bJ h1,by simpa using h2,λi y d hy=>?_⟩
 have:=c i d
 obtain⟨hl,a⟩:=bK.1 hy
 rw[a]at this
 simpa using this
theorem mJ (f:Nat->Int) (F:List Int):∀j,F.length<=(dr f F j).1.length/\(dr f F j).1.length<=F.length+j/\(dr f F j).2.length=j
 | 0=>⟨Nat.le_refl _,Nat.le_refl _,rfl⟩
 | j+1=>by
  obtain⟨a,b,c⟩:=mJ f F j
  have h:(dr f F j).1.length<=(addN (dr f F j).1 (f j)).length/\(addN (dr f F j).1 (f j)).length<=(dr f F j).1.length+1:=by
   unfold addN
   split
   · omega
   · rw[z5];simp
  refine⟨?_,?_,?_⟩
  · show _<=(addN _ _).length;omega
  · show(addN _ _).length<=_;omega
  · show((dr f F j).2++[_]).length=_;rw[z5,c];rfl
def fM (pk:List Int) (P:List Place) (r:List Int) (n m q:Nat) (i:Nat):Int:=pkL pk (tgt P r ((n+(q * m+i):Nat):Int))
def oM (d:Det) (pk:List Int) (P:List Place) (r:List Int) (n m k q:Nat) (i:Nat):Int:=outF d m k q i (atP P (fM pk P r n m q i))
theorem kX (f:Nat->Int) (F:List Int){i:Nat}{v:Int}(a:F[i]? =some v):∀j,(dr f F j).1[i]? =some v
 | 0=>a
 | j+1=>by
  have h:=kX f F a j
  show(addN _ _)[i]? =_
  unfold addN
  split
  · exact h
  · rw[List.getElem?_append_left (bK.1 h).1];exact h
structure Mkr (N m k:Nat) (Q:Int->Prop) (F:List Int) (i:Nat) (Nx Ou:List (List Int)):Prop where
 nm:Names N F
 all:∀x∈F,Q x
 zero:F[0]? =some 0
 nxl:Nx.length=i
 oul:Ou.length=i
 nxr:∀row∈Nx,row.length=m/\∀x∈row,0<=x/\x<(F.length:Int)
 our:∀row∈Ou,row.length=m/\∀x∈row,0<=x/\x<(k:Int)
def itM (d:Det) (n m k:Nat) (P:List Place) (g:Parity) (pk:List Int):Nat->List Int×List (List Int)×List (List Int)
 | 0=>([0],[],[])
 | j+1=>
  ((dr (fM pk P (eB g.Arena ((itM d n m k P g pk j).1.getD j 0)) n m (atP P ((itM d n m k P g pk j).1.getD j 0)).toNat) (itM d n m k P g pk j).1 m).1,
   (itM d n m k P g pk j).2.1++[(dr (fM pk P (eB g.Arena ((itM d n m k P g pk j).1.getD j 0)) n m (atP P ((itM d n m k P g pk j).1.getD j 0)).toNat) (itM d n m k P g pk j).1 m).2],
   (itM d n m k P g pk j).2.2++[(List.range m).map (oM d pk P (eB g.Arena ((itM d n m k P g pk j).1.getD j 0)) n m k (atP P ((itM d n m k P g pk j).1.getD j 0)).toNat)])
section
variable {d:Det}{n m k:Nat}{A:Arena}{P:List Place}{g:Parity}{W:Int->Prop}{pk:List Int}(h:Cx d n m k A P g W pk)
include h
theorem qI {x:Int}{v:Place}(b:idx P x=some v) (ha:v.At<(n:Int)) (l:wB W x=false):∃(q:Nat) (r:List Int),v.At=(q:Int)/\q<n/\idx g.Arena.Next x=some r/\r.length<=16/\(∀y∈r,Xn P.length y)/\∀i:Nat,i<m ->
 ∃j y u,toP P r ((n+(q * m+i):Nat):Int)=some j/\r[j]? =some y/\tgt P r ((n+(q * m+i):Nat):Int)=y/\(∃z∈r,atP P z=((n+(q * m+i):Nat):Int))/\idx pk y=some (fM pk P r n m q i)/\idx P (fM pk P r n m q i)=some u/\u.At=atP P (fM pk P r n m q i) /\
  (0<=fM pk P r n m q i/\fM pk P r n m q i<(P.length:Int)/\(wB W (fM pk P r n m q i)=false/\atP P (fM pk P r n m q i)<(n:Int)))/\idx (outsL d m k q i u.At) 0=some (oM d pk P r n m k q i)/\0<=oM d pk P r n m k q i/\oM d pk P r n m k q i<(k:Int):=by
 have Q:Xn P.length x:=⟨(c8 b).1,(c8 b).2.1⟩
 obtain⟨K,q,r,O,c,e,A,s⟩:=h.state b ha
 obtain⟨r',_,_,w,_,_,_,hl⟩:=h.row b
 rw[e]at w
 cases w
 refine⟨q,r,O,c,e,hl,λy hy=>(A y hy).1,λi a=>?_⟩
 obtain⟨G,S,j,T,U⟩:=ss (s i a)
 generalize hy:tgt P r ((n+(q * m+i):Nat):Int)=y at *
 have p:=(A y G).1
 have F:wB W y=wB W x:=h.yours Q (by rw[K,l];simp) ((kA e).2 G) p
 obtain⟨R,V,L,J,_⟩:=h.mid p c a S
 obtain⟨to,C,f,M,N⟩:=h.mine p (by rw[R,F,l])
 have hf:fM pk P r n m q i=to:=by
  unfold fM
  rw[hy,nv C]
 obtain⟨_,o,t,B⟩:=J to ((kA L).1 M)
 obtain⟨u,D,_,_⟩:=h.place f
 have E:u.At=atP P to:=(db D).symm
 obtain⟨_,_,_,_,H⟩:=h.cellAt c a t
 have I:=yd (d:=d) (m:=m) (k:=k) (q:=q) (i:=i) (z:=atP P to) t B
 refine⟨j,y,u,T,U,rfl,s i a,by rw[hf];exact C,by rw[hf];exact D,by rw[hf];exact E,by rw[hf];exact⟨f.1,f.2,by rw[N,F,l],by rw[B];exact H⟩,?_⟩
 unfold oM
 rw[hf,E]
 exact I
end
theorem wE (d:Det) (n m k:Nat) (P:List Place) (g:Parity) (pk:List Int):∀{i j:Nat},i<=j->(itM d n m k P g pk i).1.length<=(itM d n m k P g pk j).1.length:=by
 intro i j a
 induction a with
 | refl=>exact Nat.le_refl _
 | step _ b=>exact Nat.le_trans b (mJ _ _ _).1
section
variable {d:Det}{n m k:Nat}{A:Arena}{P:List Place}{g:Parity}{W:Int->Prop}{pk:List Int}(h:Cx d n m k A P g W pk)
include h
variable (h0:wB W 0=false)
include h0
theorem gg:∀j:Nat,(∀i,i<j->i<(itM d n m k P g pk i).1.length)->Mkr P.length m k (λx=>wB W x=false/\atP P x<(n:Int)) (itM d n m k P g pk j).1 j (itM d n m k P g pk j).2.1 (itM d n m k P g pk j).2.2
 | 0,_=>by
  obtain⟨_,_,_,_,J,_⟩:=h.len
  have D:=h.rg.game.zero
  have E:atP P 0<(n:Int):=by
   rw[db (v:=⟨0,firstR d.Pairs.length⟩) (by rw[show(0:Int)=((0:Nat):Int) from rfl,bS];exact D)]
   have:=h.n1
   show(0:Int)<_
   omega
  refine⟨⟨by show[(0:Int)].Nodup;simp,λx hx=>?_⟩,λx hx=>?_,rfl,rfl,rfl,λx hx=>(by cases hx),λx hx=>(by cases hx)⟩
  · rw[z6.1 hx];omega
  · rw[z6.1 hx];exact⟨h0,E⟩
 | j+1,hj=>by
  have hM:=gg j λi l=>hj i (by omega)
  have p:=hj j (by omega)
  unfold itM
  generalize itM d n m k P g pk j=s at *
  obtain⟨F,Nx,Ou⟩:=s
  dsimp only at hM p ⊢
  have hx:F[j]? =some F[j]:=bJ p
  have B:F.getD j 0=F[j]:=by rw[List.getD_eq_getElem?_getD,hx];rfl
  rw[B]
  generalize F[j]=x at hx
  have w:=bQ hx
  obtain⟨C,u⟩:=hM.all x w
  obtain⟨v,t,_,_⟩:=h.place (x:=x) (hM.nm.2 x w)
  rw[db t]at u ⊢
  obtain⟨q,r,I,L,hr,hrl,K,hf⟩:=qI h t u C
  rw[fh hr,show v.At.toNat=q by omega]
  have b:=sZ (N:=P.length) (F:=F) (Q:=λx=>wB W x=false/\atP P x<(n:Int)) hM.nm hM.all (f:=fM pk P r n m q) (c:=m) (λi l=>by
   obtain⟨_,_,_,_,_,_,_,_,_,_,H,_⟩:=hf i l
   exact H) m (Nat.le_refl _)
  have hl:=b.len
  refine⟨b.nm,b.all,b.pre 0 _ hM.zero,by rw[z5,hM.nxl];rfl,by rw[z5,hM.oul];rfl,λrow o=>?_,λrow o=>?_⟩
  · rcases Ad.1 o with a | a
    · obtain⟨z,A⟩:=hM.nxr row a
      exact⟨z,λx hx=>by have:=A x hx;omega⟩
    · rw[z6.1 a]
      exact⟨b.rl,b.rin⟩
  · rcases Ad.1 o with a | a
    · exact hM.our row a
    · rw[z6.1 a]
      refine⟨by rw[Ah,List.length_range],λy hy=>?_⟩
      obtain⟨i,l,e⟩:=List.mem_map.1 hy
      obtain⟨_,_,_,_,_,_,_,_,_,_,_,_,G⟩:=hf i (List.mem_range.1 l)
      rw[← e];exact G
end
end Go.Proofs.YtleekpaohfpooaaGreat
set_option linter.unusedVariables false
set_option linter.unusedSimpArgs false
namespace Go.Proofs.YtleekpaohfpooaaGreat
open Go Go.Wk Go.Proofs
theorem zx {g:Parity}{P:List Place}{x:Int}{r:List Int}(hr:idx g.Arena.Next x=some r) (hl:r.length<=16) (b:∀y∈r,Xn P.length y){z:Int}(h:∃y∈r,atP P y=z):n8 g P x z=some (tgt P r z):=by
 obtain⟨_,_,j,hj,_⟩:=ss h
 obtain⟨c,d,i⟩:=wc hj
 have hjl:=(bK.1 c).1
 unfold n8
 obtain⟨o,w1,k⟩:=cC (f:=kp g P x z) (λq (s:Int)=>s=(q:Int)/\q<=j) (λy=>y=tgt P r z) (λ_=>False) j (λq s ⟨e,l⟩=>by
  subst e
  have hy:r[q]? =some (r[q]'(by omega)):=bJ (by omega)
  generalize r[q]'(by omega)=y at hy
  obtain⟨v,a,_⟩:=gK (xs:=P) (b y (bQ hy)).1 (b y (bQ hy)).2
  unfold kp
  rw[hr,bI,decide_eq_true (show(q:Int)<(r.length:Int) by omega),cond_true,bI,bS,hy,bI,a,bI]
  by_cases e:q=j
  · subst e
    rw[c]at hy
    cases hy
    rw[db a]at d
    rw[show(v.At==z)=true from by simpa using d]
    exact⟨_,rfl,rfl⟩
  · have:=i q y (by omega) hy
    rw[db a]at this
    rw[show(v.At==z)=false from by simpa using this,cond_false,wr' (by omega) (by omega)]
    exact⟨_,rfl,by omega,by omega,by omega⟩) (2 ^ 64) 0 0 (by omega) ⟨rfl,Nat.zero_le _⟩ (by omega)
 match o,k with
 | .inl y,e=>rw[w1,e];rfl
theorem ui {F:List Int}(t:Int) (hl:F.length<=1000):(bif decide (cO F t<0) then Option.bind (appS 8 F [t]) λx=>some x else some F)=some (addN F t):=by
 by_cases h:t∈F
 · rw[decide_eq_false (by have:=(qQ h).1;omega),cond_false]
   unfold addN
   rw[if_pos h]
 · rw[qR h,decide_eq_true (by omega),cond_true,app1 (by omega) rfl]
   unfold addN
   rw[if_neg h];rfl
section
variable {p:Sig}(hs:sigOk p=true){d:Det}(hd:detOk p d=true) (hpb:∀x∈d.Pairs,x.Ask.length<=1000000000/\x.Give.length<=1000000000){n m k:Nat}{A:Arena}{P:List Place}{g:Parity}{W:Int->Prop}{pk wn:List Int}(h:Cx d n m k A P g W pk) (hm:pw p.In=(m:Int)) (hk:pw p.Out=(k:Int))
include hs hd hpb h hm hk
omit hk in
theorem xm {q i:Nat}(c:q<n) (hi:i<m):kj p d q i=some (((n+(q * m+i):Nat):Int)):=by
 have b:=h.n48
 have a:=h.m4
 have g:=qH (n:=n) c hi
 have j:n * m<=48 * 4:=Nat.mul_le_mul b a
 have e:(q:Int) * (m:Int)=((q * m:Nat):Int):=by simp
 have f:dG p=some (m:Int):=by rw[mv hs,hm]
 unfold kj
 rw[hU hs hpb,hd,bI,zZ,cond_false,h.dl,wr' (z:=(n:Int)-1) (by omega) (by omega),cV,decide_eq_true (show(0:Int)<=(q:Int) by omega),decide_eq_true (show(q:Int)<=(n:Int)-1 by omega),Bool.and_self,bI,bI,zZ,cond_false,f,bI,wr' (z:=(m:Int)-1) (by omega) (by omega),cV,decide_eq_true (show(-1:Int)<=(i:Int) by omega),decide_eq_true (show(i:Int)<=(m:Int)-1 by omega),Bool.and_self,bI,bI,zZ,cond_false,show((i:Int)== -1)=false from by rw[beq_eq_false_iff_ne];omega,cond_false,bI,e,wr' (z:=((q * m:Nat):Int)) (by omega) (by omega),wr' (z:=(n:Int)+((q * m:Nat):Int)) (by omega) (by omega),wr' (by omega) (by omega)]
 congr 1
 omega
theorem zA {q i:Nat}(g:q<n) (hi:i<m) (z:Int):jw p d q i z=some (outsL d m k q i z):=by
 have y:=h.n48
 have w:=h.m4
 have v:=h.k4
 have l:dG p=some (m:Int):=by rw[mv hs,hm]
 unfold jw
 rw[hU hs hpb,hd,bI,zZ,cond_false,h.dl,wr' (z:=(n:Int)-1) (by omega) (by omega),cV,decide_eq_true (show(0:Int)<=(q:Int) by omega),decide_eq_true (show(q:Int)<=(n:Int)-1 by omega),Bool.and_self,bI,bI,zZ,cond_false,l,bI,wr' (z:=(m:Int)-1) (by omega) (by omega),cV,decide_eq_true (show(0:Int)<=(i:Int) by omega),decide_eq_true (show(i:Int)<=(m:Int)-1 by omega),Bool.and_self,bI,bI,zZ,cond_false]
 obtain⟨o,w1,u⟩:=cC (f:=fI p d q i z) (λj (s:List Int×Int)=>s=(outsL d m j q i z,(j:Int))/\j<=k) (λ_=>False) (λs=>s.1=outsL d m k q i z) k (λj s ⟨e,hj⟩=>by
  subst e
  have hl:=vN d m j q i z
  unfold fI
  rw[dg (ez hs).2,hk,bI]
  dsimp only
  by_cases b:j<k
  · obtain⟨row,r,t,_⟩:=h.cellAt g hi b
    have c:=mq hs (x:=(i:Int)) (o:=(j:Int)) (by omega) (by omega) (by omega) (by omega)
    have e:(j:Int) * (m:Int)+(i:Int)=((j * m+i:Nat):Int):=by simp
    rw[hm,e]at c
    rw[decide_eq_true (show(j:Int)<(k:Int) by omega),cond_true,r,bI,c,bI,t,bI]
    have a:=uk d m j q i z
    cases hc:tab d.Next q ((j * m+i:Nat):Int)==z with
    | true=>
     rw[hc,if_pos rfl]at a
     rw[cond_true,app1 (by omega) rfl,bI,bI,wr' (by omega) (by omega)]
     exact⟨_,rfl,b,by rw[a];rfl,by omega⟩
    | false=>
     rw[hc,if_neg (by simp),List.append_nil]at a
     rw[cond_false,bI,wr' (by omega) (by omega)]
     exact⟨_,rfl,b,by rw[a];rfl,by omega⟩
  · have:j=k:=by omega
    subst this
    rw[decide_eq_false (show ¬((j:Nat):Int)<(j:Int) by omega),cond_false]
    exact⟨_,rfl,rfl⟩) (2 ^ 64) 0 ([],0) (by omega) ⟨rfl,Nat.zero_le _⟩ (by omega)
 match o,u with
 | .inr s,e=>rw[w1,bI,bV,e]
end
end Go.Proofs.YtleekpaohfpooaaGreat
set_option linter.unusedVariables false
set_option linter.unusedSimpArgs false
namespace Go.Proofs.YtleekpaohfpooaaGreat
open Go Go.Wk Go.Proofs
def stM (d:Det) (n m k:Nat) (P:List Place) (g:Parity) (pk:List Int) (j:Nat):List Int×Int×List (List Int)×List (List Int):=((itM d n m k P g pk j).1,(j:Int),(itM d n m k P g pk j).2.1,(itM d n m k P g pk j).2.2)
section
variable {d:Det}{n m k:Nat}{A:Arena}{P:List Place}{g:Parity}{W:Int->Prop}{pk:List Int}(h:Cx d n m k A P g W pk) (h0:wB W 0=false)
include h h0
theorem xQ {j:Nat}(hj:∀i,i<j->i<(itM d n m k P g pk i).1.length) (c:j<(itM d n m k P g pk j).1.length):∃x v q r,(itM d n m k P g pk j).1[j]? =some x/\idx P x=some v/\v.At=((q:Nat):Int)/\q<n/\wB W x=false/\idx g.Arena.Next x=some r/\(itM d n m k P g pk j).1.length<=256 /\
 stM d n m k P g pk (j+1)=((dr (fM pk P r n m q) (itM d n m k P g pk j).1 m).1,((j+1:Nat):Int),(itM d n m k P g pk j).2.1++[(dr (fM pk P r n m q) (itM d n m k P g pk j).1 m).2],(itM d n m k P g pk j).2.2++[(List.range m).map (oM d pk P r n m k q)]):=by
 obtain⟨_,_,_,u,_,_⟩:=h.len
 have hM:=gg h h0 j hj
 have t:=hM.nm.len
 have hx:(itM d n m k P g pk j).1[j]? =some ((itM d n m k P g pk j).1[j]):=bJ c
 have p:(itM d n m k P g pk j).1.getD j 0=(itM d n m k P g pk j).1[j]:=by rw[List.getD_eq_getElem?_getD,hx];rfl
 have f:=List.getElem_mem c
 obtain⟨l,e⟩:=hM.all _ f
 obtain⟨v,a,_,_⟩:=h.place (hM.nm.2 _ f)
 have b:=db a
 rw[b]at e
 obtain⟨q,r,o,s,hr,_⟩:=qI h a e l
 refine⟨_,v,q,r,hx,a,o,s,l,hr,by omega,?_⟩
 unfold stM
 rw[show itM d n m k P g pk (j+1)=((dr (fM pk P (eB g.Arena ((itM d n m k P g pk j).1.getD j 0)) n m (atP P ((itM d n m k P g pk j).1.getD j 0)).toNat) (itM d n m k P g pk j).1 m).1,(itM d n m k P g pk j).2.1++[(dr (fM pk P (eB g.Arena ((itM d n m k P g pk j).1.getD j 0)) n m (atP P ((itM d n m k P g pk j).1.getD j 0)).toNat) (itM d n m k P g pk j).1 m).2],(itM d n m k P g pk j).2.2++[(List.range m).map (oM d pk P (eB g.Arena ((itM d n m k P g pk j).1.getD j 0)) n m k (atP P ((itM d n m k P g pk j).1.getD j 0)).toNat)]) from rfl]
 rw[p,fh hr,b,show v.At.toNat=q by omega]
theorem yZ {t:Type}{f:List Int×Int×List (List Int)×List (List Int)->Option (t⊕((List Int×Int×List (List Int)×List (List Int))⊕(List Int×Int×List (List Int)×List (List Int))))}(hf:∀j,(∀i,i<j->i<(itM d n m k P g pk i).1.length)->f (stM d n m k P g pk j)=some (if j<(itM d n m k P g pk j).1.length then .inr (.inr (stM d n m k P g pk (j+1))) else .inr (.inl (stM d n m k P g pk j)))):
 ∃j:Nat,(∀i,i<j->i<(itM d n m k P g pk i).1.length)/\j=(itM d n m k P g pk j).1.length/\bU f (2 ^ 64) ([0],0,[],[])=some (.inr (stM d n m k P g pk j)):=by
 obtain⟨_,_,_,v,_,_⟩:=h.len
 obtain⟨o,w1,r⟩:=cC (f:=f) (λj s=>s=stM d n m k P g pk j/\∀i,i<j->i<(itM d n m k P g pk i).1.length) (λ_=>False)
  (λs=>∃j:Nat,s=stM d n m k P g pk j/\(∀i,i<j->i<(itM d n m k P g pk i).1.length)/\j=(itM d n m k P g pk j).1.length) 256 (λj s ⟨e,hj⟩=>by
  subst e
  have u:=(gg h h0 j hj).nm.len
  by_cases c:j<(itM d n m k P g pk j).1.length
  · rw[hf j hj,if_pos c]
    refine⟨_,rfl,by omega,rfl,λi l=>?_⟩
    by_cases e:i=j
    · subst e;exact c
    · exact hj i (by omega)
  · rw[hf j hj,if_neg c]
    refine⟨_,rfl,j,rfl,hj,?_⟩
    cases j with
    | zero=>exact absurd (by show 0 < [(0:Int)].length;simp) c
    | succ j=>
     have a:=hj j (by omega)
     have b:=wE d n m k P g pk (show j<=j+1 by omega)
     omega) (2 ^ 64) 0 ([0],0,[],[]) (by omega) ⟨rfl,λi l=>absurd l (Nat.not_lt_zero i)⟩ (by omega)
 match o,r with
 | .inr s,⟨j,e,p,q⟩=>exact⟨j,p,q,by rw[w1,e]⟩
end
end Go.Proofs.YtleekpaohfpooaaGreat
set_option linter.unusedVariables false
set_option linter.unusedSimpArgs false
namespace Go.Proofs.YtleekpaohfpooaaGreat
open Go Go.Wk Go.Proofs
section
variable {p:Sig}(hs:sigOk p=true){d:Det}(hd:detOk p d=true) (hpb:∀x∈d.Pairs,x.Ask.length<=1000000000/\x.Give.length<=1000000000){n m k:Nat}{A:Arena}{P:List Place}{g:Parity}{W:Int->Prop}{pk:List Int}(h:Cx d n m k A P g W pk) (hm:pw p.In=(m:Int)) (hk:pw p.Out=(k:Int)) (h0:wB W 0=false) (hsm:∀j,(∀i,i<j->i<(itM d n m k P g pk i).1.length)->(itM d n m k P g pk j).1.length<=48)
include h hs hd hpb hm hk h0 hsm
theorem zz:∃j:Nat,(∀i,i<j->i<(itM d n m k P g pk i).1.length)/\j=(itM d n m k P g pk j).1.length/\bU (iK p d g P pk) (2 ^ 64) ([0],0,[],[])=some (.inr (stM d n m k P g pk j)):=by
 have V:=h.m4
 refine yZ h h0 λj hj=>?_
 have hM:=gg h h0 j hj
 have b:=hM.nxl
 have R:=hM.oul
 have T:=hM.nm.len
 have U:=h.len.2.2.2.1
 unfold iK
 by_cases a:j<(itM d n m k P g pk j).1.length
 · have w:=hsm (j+1) λi C=>by
    by_cases e:i=j
    · subst e;exact a
    · exact hj i (by omega)
   obtain⟨x,v,q,r,hx,t,E,l,H,hr,hl,hE⟩:=xQ h h0 hj a
   obtain⟨I,r',Q,_,c,hrl,A,B⟩:=qI h t (by omega) H
   have:q=I:=by omega
   subst this
   rw[hr]at c
   cases c
   have D:∀j:Nat,((List.range j).map (oM d pk P r n m k q)).length=j:=λj=>by rw[Ah,List.length_range]
   rw[if_pos a,hE]
   have z:(itM d n m k P g pk (j+1)).1=(dr (fM pk P r n m q) (itM d n m k P g pk j).1 m).1:=congrArg Prod.fst hE
   rw[z]at w
   unfold stM
   generalize itM d n m k P g pk j=S at *
   obtain⟨F,Nx,Ou⟩:=S
   dsimp only at *
   obtain⟨e,G⟩:∃e,bU (gh p d g P pk (F,(j:Int),Nx,Ou) v) (2 ^ 64) (F,[],[],0)=some (.inr ((dr (fM pk P r n m q) F m).1,(dr (fM pk P r n m q) F m).2,(List.range m).map (oM d pk P r n m k q),e)):=by
    obtain⟨o,w1,O⟩:=cC (f:=gh p d g P pk (F,(j:Int),Nx,Ou) v) (λj (s:List Int×List Int×List Int×Int)=>s=((dr (fM pk P r n m q) F j).1,(dr (fM pk P r n m q) F j).2,(List.range j).map (oM d pk P r n m k q),(j:Int))/\j<=m) (λ_=>False) (λs=>∃e,s=((dr (fM pk P r n m q) F m).1,(dr (fM pk P r n m q) F m).2,(List.range m).map (oM d pk P r n m k q),e)) m (λi s ⟨e,C⟩=>by
     subst e
     obtain⟨X,Y,Z⟩:=mJ (fM pk P r n m q) F i
     unfold gh iJ
     dsimp only
     rw[dg (ez hs).1,hm,bI,bI]
     by_cases a:i<m
     · obtain⟨W,y,u,aa,ab,J,K,L,M,ac,ad,N,_⟩:=B i a
       rw[decide_eq_true (show(i:Int)<(m:Int) by omega),cond_true,bS,kX _ _ hx,bI,E,xm hs hd hpb h hm l a,bI,zx hr hrl A K,J,bI,L,bI,lQ,bI,ui _ (by omega),bI,lQ,bI,app1 (by omega) rfl,bI,M,bI,zA hs hd hpb h hm hk l a,bI,N,bI,app1 (by rw[D];omega) rfl,bI,wr' (by omega) (by omega)]
       exact⟨_,rfl,a,by rw[List.range_succ,List.map_append];rfl,by omega⟩
     · have:i=m:=by omega
       subst this
       rw[decide_eq_false (show ¬((i:Nat):Int)<(i:Int) by omega),cond_false]
       exact⟨_,rfl,_,rfl⟩) (2 ^ 64) 0 (F,[],[],0) (by omega) ⟨rfl,Nat.zero_le _⟩ (by omega)
    match o,O with
    | .inr s,⟨e,b⟩=>exact⟨e,by rw[w1,b]⟩
   rw[decide_eq_true (show(j:Int)<(F.length:Int) by omega),cond_true,bS,hx,bI,t,bI,G,bI,bV]
   dsimp only
   rw[decide_eq_false (by omega),cond_false,app1 (by omega) rfl,bI,app1 (by omega) rfl,bI,wr' (by omega) (by omega)]
   rfl
 · unfold stM
   dsimp only
   rw[decide_eq_false (by omega),cond_false,if_neg a]
end
end Go.Proofs.YtleekpaohfpooaaGreat
set_option linter.unusedVariables false
set_option linter.unusedSimpArgs false
namespace Go.Proofs.YtleekpaohfpooaaGreat
open Go Go.Wk Go.Proofs
def mst (c:Clause) (q x:Int):Int:=monNext c.Kind q (decide (x∈c.A)) (decide (x∈c.B))
theorem xq {a n:Nat}{f:Int->Int->Int}{q x:Int}(b:0<=q) (d:q<a) (c:0<=x) (e:x<n):tab ((numsN a).map λq=>(numsN n).map λx=>f q x) q x=f q x:=by
 obtain⟨q,rfl⟩:=cY b
 obtain⟨x,rfl⟩:=cY c
 unfold tab numsN
 rw[z7,z7]
 simp[List.getD_eq_getElem?_getD,List.getElem?_range (show q<a by omega),List.getElem?_range (show x<n by omega)]
theorem xY {c:Clause}{n:Nat}{q x:Int}(a:0<=q) (b:q<monStates c.Kind) (d:0<=x) (e:x<n):tab (monD c n).Next q x=mst c q x:=
 xq (f:=λq x=>mst c q x) a b d e
structure Sm (n:Nat) (D:Det) (c:Clause) (i:Nat) (π:Int->Int):Prop where
 zero:π 0=0
 rng:∀r:Int,0<=r->r<D.Next.length->0<=π r/\π r<monStates c.Kind
 step:∀r x:Int,0<=r->r<D.Next.length->0<=x->x<n->π (tab D.Next r x)=mst c (π r) x
 pair:∃pr,D.Pairs[i]? =some pr/\∀r:Int,0<=r->r<D.Next.length->((r∈pr.Ask↔π r∈(monPair c.Kind).Ask)/\(r∈pr.Give↔π r∈(monPair c.Kind).Give))
def keyAt (K:List Key) (r:Int):Key:=(K[r.toNat]?).getD (0,0)
theorem iY {K:List Key}{r:Int}(a:0<=r) (b:r<K.length):K[r.toNat]? =some (keyAt K r):=by
 have h:K[r.toNat]? =some (K[r.toNat]'(by omega)):=bJ (by omega)
 unfold keyAt
 rw[h];rfl
theorem ov {part:Key->Int}{K:List Key}{S:List Int}{r:Int}(c:0<=r) (d:r<K.length):r∈plK part K S K.length↔part (keyAt K r)∈S:=by
 rw[oZ]
 have hk:=iY c d
 constructor
 · rintro⟨i,h1,h2,v,a,b⟩
   have:r.toNat=i:=by omega
   rw[this,a]at hk
   cases hk
   exact b
 · intro h
   exact⟨r.toNat,by omega,by omega,_,hk,h⟩
theorem od {b:Key->Int->Key}{k:Nat}{K:List Key}{R:List (List Int)}(h:Prod b k K K.length R){r x:Int}(g:0<=r) (i:r<K.length) (j:0<=x) (p:x<k):0<=tab R r x/\tab R r x<K.length/\keyAt K (tab R r x)=b (keyAt K r) x:=by
 have hrl:=h.rl
 have hr:R[r.toNat]? =some (R[r.toNat]'(by omega)):=bJ (by omega)
 obtain⟨_,v,d,e⟩:=h.row _ _ hr
 obtain⟨x,rfl⟩:=cY j
 obtain⟨y,m,n,c⟩:=e x (by omega)
 have a:=iY g i
 rw[d]at a
 have f:v=keyAt K r:=Option.some.inj a
 have ht:tab R r (x:Int)=y:=by
  unfold tab
  rw[List.getD_eq_getElem?_getD (l:=R),hr,Option.getD_some,List.getD_eq_getElem?_getD,z7,m,Option.getD_some]
 have o:=(bK.1 c).1
 rw[ht]
 refine⟨n,by omega,?_⟩
 rw[← f]
 unfold keyAt
 rw[c];rfl
theorem PR.len {n:Nat}{cs:List Clause}{D:Det}(h:PR n cs D):D.Pairs.length=cs.length:=by
 induction h with
 | nil=>rfl
 | @snoc cs c D K R hp k a=>
  show(D.Pairs.map _++[_]).length=_
  rw[z5,Ah,z5,a];rfl
theorem PR.sm {p:Sig}{n:Nat}(hn:ltd p=n):∀{cs:List Clause}{D:Det},PR n cs D->(∀c∈cs,cH p c=true)->∀(i:Nat) c,cs[i]? =some c->∃π,Sm n D c i π:=λ{cs D} h=>by
 induction h with
 | nil=>intro _ i c hc;simp at hc
 | @snoc cs d D K R hp k C=>
  intro B i c hc
  have e:(jD D (monD d n) K R).Next=R:=rfl
  have H:R.length=K.length:=k.prod.rl
  have m:(jD D (monD d n) K R).Pairs=D.Pairs.map (plP (·.1) K)++(monD d n).Pairs.map (plP (·.2) K):=rfl
  have y:D.Pairs.length=cs.length:=hp.len
  have t:keyAt K 0=(0,0):=by
   unfold keyAt
   rw[show(0:Int).toNat=0 from rfl,k.prod.zero];rfl
  have f:∀r:Int,0<=r->r<R.length->0<=(keyAt K r).1/\(keyAt K r).1<D.Next.length/\0<=(keyAt K r).2/\(keyAt K r).2<(monD d n).Next.length:=λr a b=>
   k.kin _ (bQ (iY a (by omega)))
  have q:(monD d n).Next.length=monStates d.Kind:=by
   show((numsN _).map _).length=_
   rw[Ah,g7]
  by_cases A:i<cs.length
  · rw[List.getElem?_append_left A]at hc
    obtain⟨π,s⟩:=C (λc hc=>B c (List.mem_append_left _ hc)) i c hc
    refine⟨λr=>π (keyAt K r).1,⟨by show π (keyAt K 0).1=0;rw[t];exact s.zero,λr a b=>?_,λr x a b j l=>?_,?_⟩⟩
    · obtain⟨a1,a2,_,_⟩:=f r a b
      exact s.rng _ a1 a2
    · obtain⟨a1,a2,_,_⟩:=f r a b
      have ht:=(od k.prod a (by rw[e]at b;omega) j l).2.2
      rw[e]
      show π (keyAt K (tab R r x)).1=_
      rw[ht]
      exact s.step _ x a1 a2 j l
    · obtain⟨G,E,F⟩:=s.pair
      refine⟨plP (·.1) K G,?_,λr a b=>?_⟩
      · rw[m,List.getElem?_append_left (by rw[Ah];omega),List.getElem?_map,E];rfl
      · obtain⟨a1,a2,_,_⟩:=f r a b
        have g:r<K.length:=by rw[e]at b;omega
        obtain⟨u,v⟩:=F _ a1 a2
        exact⟨(ov a g).trans u,(ov a g).trans v⟩
  · have o:=(bK.1 hc).1
    rw[z5]at o
    simp only[List.length_cons,Aa]at o
    have w:i=cs.length:=by omega
    subst w
    have z:c=d:=by simp at hc;exact hc.symm
    subst z
    refine⟨λr=>(keyAt K r).2,⟨by show(keyAt K 0).2=0;rw[t],λr a b=>?_,λr x a b j l=>?_,?_⟩⟩
    · obtain⟨_,_,a1,a2⟩:=f r a b
      rw[q]at a2
      exact⟨a1,a2⟩
    · obtain⟨_,_,a1,a2⟩:=f r a b
      rw[q]at a2
      have ht:=(od k.prod a (by rw[e]at b;omega) j l).2.2
      rw[e]
      show(keyAt K (tab R r x)).2=_
      rw[ht]
      exact xY a1 a2 j l
    · refine⟨plP (·.2) K (monPair c.Kind),?_,λr a b=>?_⟩
      · rw[m,List.getElem?_append_right (by rw[Ah];omega),Ah,y,Nat.sub_self];rfl
      · have g:r<K.length:=by rw[e]at b;omega
        exact⟨ov a g,ov a g⟩
end Go.Proofs.YtleekpaohfpooaaGreat
set_option linter.unusedVariables false
set_option linter.unusedSimpArgs false
namespace Go.Proofs.YtleekpaohfpooaaGreat
open Go Go.Wk Go.Proofs
structure Stq (p:Sig) (cs:List Clause) (d:Det) (n m k:Nat) (A:Arena) (P:List Place) (g:Parity) (W:Int->Prop) (pk:List Int):Prop where
 det:detOk p d=true
 im:pw p.In=(m:Int)
 ok:pw p.Out=(k:Int)
 cx:Cx d n m k A P g W pk
 prd:∃N:Nat,ltd p=N/\PR N cs d
end Go.Proofs.YtleekpaohfpooaaGreat
set_option linter.unusedVariables false
set_option linter.unusedSimpArgs false
namespace Go.Proofs.YtleekpaohfpooaaGreat
open Go Go.Wk Go.Proofs
theorem yh {k:Nat}(hk:k<=2){n:Nat}{u v:Place}(f:VOk n k u) (g:VOk n k v) (h:u.At=v.At) (e:u.Record.headD 0=v.Record.headD 0):u=v:=by
 obtain⟨a,r⟩:=u
 obtain⟨b,s⟩:=v
 dsimp only at h e
 subst h
 have c:=f.rl
 have d:=g.rl
 have i:=f.rin
 have j:=g.rin
 have l:=f.nd
 have m:=g.nd
 dsimp only at c d i j l m
 congr 1
 match r,s with
 | [],[]=>rfl
 | [],_::_=>simp at c d;omega
 | _::_,[]=>simp at c d;omega
 | [x],[y]=>simp at e;rw[e]
 | [x],_::_::_=>simp at c d;omega
 | _::_::_,[y]=>simp at c d;omega
 | [x,x'],[y,y']=>
  simp at e l m
  have a1:=i x (by simp)
  have a2:=i x' (by simp)
  have o:=j y' (by simp)
  have:x'=y':=by omega
  rw[e,this]
 | [_,_],_::_::_::_=>simp at c d;omega
 | _::_::_::_,_=>simp at c;omega
theorem pS {k:Nat}(hk:k<=2){n c:Nat}{P:List Place}(hn:P.Nodup) (d:∀v∈P,VOk n k v/\v.At<c):P.length<=2 * c:=by
 have h1:(P.map λv=>2 * v.At+v.Record.headD 0).Nodup:=by
  unfold List.Nodup
  rw[List.pairwise_map]
  refine List.Pairwise.imp_of_mem (λ{u v} i j g e=>g ?_) hn
  have a1:=(d u i).1
  have a2:=(d v j).1
  have hd:∀w:Place,VOk n k w->0<=w.Record.headD 0/\w.Record.headD 0<2:=λw l=>by
   have f:=l.rin
   cases hr:w.Record with
   | nil=>simp
   | cons x r=>
    have:=f x (by rw[hr];simp)
    simp
    omega
  have m:=hd u a1
  have o:=hd v a2
  exact yh hk a1 a2 (by omega) (by omega)
 have:=dP (2 * c) _ h1 λx hx=>by
  obtain⟨v,hm,e⟩:=List.mem_map.1 hx
  obtain⟨a,b⟩:=d v hm
  have:=a.a0
  have f:=a.rin
  subst e
  cases hr:v.Record with
  | nil=>simp;omega
  | cons y r=>
   have:=f y (by rw[hr];simp)
   simp
   omega
 rwa [Ah]at this
theorem pK {d:Det}{n m k:Nat}{A:Arena}{P:List Place}{g:Parity}{W:Int->Prop}{pk:List Int}(h:Cx d n m k A P g W pk) (hn:n<=16) (hk:d.Pairs.length<=2){F:List Int}(i:Names P.length F) (ha:∀x∈F,atP P x<(n:Int)):F.length<=32:=by
 have f:∀x∈F,∃v,P[x.toNat]? =some v/\idx P x=some v/\0<=x:=λx hx=>by
  obtain⟨h0,h1⟩:=i.2 x hx
  obtain⟨v,b,_⟩:=gK (xs:=P) h0 h1
  exact⟨v,by rw[← cz h0];exact b,b,h0⟩
 have h1:(F.map λx=>P.getD x.toNat ⟨0,[]⟩).Nodup:=by
  unfold List.Nodup
  rw[List.pairwise_map]
  refine List.Pairwise.imp_of_mem (λ{x y} hx hy o e=>o ?_) i.1
  obtain⟨u,a,_,r⟩:=f x hx
  obtain⟨v,j,_,s⟩:=f y hy
  rw[List.getD_eq_getElem?_getD,List.getD_eq_getElem?_getD,a,j,Option.getD_some,Option.getD_some]at e
  subst e
  obtain⟨a1,a2⟩:=bK.1 a
  obtain⟨q,l⟩:=bK.1 j
  have:=(List.getElem_inj h.rg.game.nod).1 (a2.trans l.symm)
  omega
 have:=pS hk (c:=n) h1 λv b=>by
  obtain⟨x,hx,e⟩:=List.mem_map.1 b
  obtain⟨u,a,p,_⟩:=f x hx
  rw[List.getD_eq_getElem?_getD,a,Option.getD_some]at e
  subst e
  have:=ha x hx
  rw[db p]at this
  exact⟨h.rg.game.inn u (bQ a),this⟩
 rw[Ah]at this
 omega
end Go.Proofs.YtleekpaohfpooaaGreat
set_option linter.unusedVariables false
set_option linter.unusedSimpArgs false
namespace Go.Proofs.YtleekpaohfpooaaGreat
open Go Go.Wk Go.Proofs
theorem yx {p:Sig}(hs:sigOk p=true){cs:List Clause}(hb:∀c∈cs,Clause.bd c) (hc:∀c∈cs,cH p c=true) (h2:cs.length<=2):∃d A n m k P g W pk,cU p cs=some (d,true)/\Stq p cs d n m k A P g W pk/\n<=16/\d.Pairs.length<=2/\(∀x∈d.Pairs,x.Ask.length<=1000000000/\x.Give.length<=1000000000)/\g9 p d=some (A,d.Pairs,true)/\gM A d.Pairs 0=some (g,P,true)/\kZ g=some ⟨wonL g.Prio.length W,pk⟩/\idx (wonL g.Prio.length W) 0=some (b2i (wB W 0)):=by
 have C:dJ p cs=true:=by
  unfold dJ
  rw[decide_eq_true (by omega),List.all_eq_true.2 hc];rfl
 rcases nB p hb with ⟨_,_,w⟩ | ⟨_,_,N,d,B,_,e,hd,_,h1,_⟩
 · have:=w hs C
   omega
 · have S:=e.size
   have R:=e.len
   have M:4 ^ cs.length<=4 ^ 2:=Nat.pow_le_pow_right (by omega) h2
   obtain⟨n,m,k,A,u,G,H,s,i,r,a,k1,q,hD,hpb,b,E⟩:=vy hs hd
   have y:=yN i s r a k1 q u hD b
   have Q:A.Owner.length=n+n * m:=by rw[b.ol];simp
   have O:n * m<=48 * 4:=Nat.mul_le_mul i a
   have D:pairsOk d.Pairs (A.Owner.length:Int)=true:=by
    have f:=hd
    unfold detOk at f
    simp only[sh]at f
    have hp:=f.1.2
    unfold pairsOk at hp ⊢
    rw[sh,List.all_eq_true]at hp ⊢
    refine⟨hp.1,λx hx=>?_⟩
    have:=hp.2 x hx
    unfold pairOk at this ⊢
    rw[sh]at this ⊢
    exact⟨(St.of this.1).ok (by omega),(St.of this.2).ok (by omega)⟩
   rcases tO y D hpb (Int.le_refl 0) (by omega) with ⟨_,K,V,F,t⟩ | ⟨P,g,z,l,I⟩
   · have:=pS (k:=d.Pairs.length) (by omega) (c:=A.Owner.length) F λv o=>⟨t v o,(t v o).a1⟩
     have:n * m<=16 * 4:=Nat.mul_le_mul (by omega) a
     omega
   · obtain⟨W,pk,J,X,L⟩:=we l
     have j:Cx d n m k A P g W pk:=⟨s,i,r,a,k1,q,u,hD,b,z,l,L⟩
     obtain⟨T,_,_,_,U,_⟩:=j.len
     exact⟨d,A,n,m,k,P,g,W,pk,h1,⟨hd,G,H,j,N,B,e⟩,by omega,by omega,hpb,E,I,J,qf ⟨Int.le_refl _,by omega⟩⟩
end Go.Proofs.YtleekpaohfpooaaGreat
set_option linter.unusedVariables false
set_option linter.unusedSimpArgs false
namespace Go.Proofs.YtleekpaohfpooaaGreat
open Go Go.Wk Go.Proofs
def Sat (c:Clause) (L:Nat->Int):Prop:=
 if c.Kind=1 then ∀t,L t∈c.A
 else if c.Kind=2 then ∀t,L t∈c.A->L (t+1)∈c.B
 else if c.Kind=3 then ∀t,L t∈c.A->∃u,t<=u/\L u∈c.B
 else if c.Kind=4 then Par.Io λt=>L t∈c.A
 else if c.Kind=5 then ¬Par.Io λt=>L t∉c.A
 else if c.Kind=6 then ∃t,L t∈c.A
 else(Par.Io λt=>L t∈c.A)->Par.Io λt=>L t∈c.B
def mrun (c:Clause) (L:Nat->Int):Nat->Int
 | 0=>0
 | t+1=>mst c (mrun c L t) (L t)
def Well (A G:List Int) (s:Nat->Int):Prop:=(Par.Io λt=>s t∈A)->Par.Io λt=>s t∈G
theorem xP {S:Nat->Prop}:(Par.Io λt=>S (t+1))↔Par.Io S:=⟨λh N=>by
 obtain⟨m,h1,h2⟩:=h N
 exact⟨m+1,by omega,h2⟩,λh N=>by
 obtain⟨m,h1,h2⟩:=h (N+1)
 exact⟨m-1,by omega,by show S (m-1+1);rwa [show m-1+1=m by omega]⟩⟩
theorem fp {S T:Nat->Prop}(h:∀t,S t↔T t):Par.Io S↔Par.Io T:=by
 rw[show S=T from funext λt=>propext (h t)]
theorem nM {S T:Nat->Prop}(h:∀t,S (t+1)↔T t):Par.Io S↔Par.Io T:=xP.symm.trans (fp h)
theorem pP {s E:Nat->Prop}(h0:¬s 0) (h:∀t,s (t+1)↔s t\/E t):(Par.Io s↔∃t,E t)/\((Par.Io λt=>¬s t)↔∀t,¬E t)/\∀t,s t->∃u,E u:=by
 have d:∀t,s t↔∃u,u<t/\E u:=λt=>by
  induction t with
  | zero=>exact⟨λhs=>absurd hs h0,λ⟨u,a,_⟩=>absurd a (Nat.not_lt_zero u)⟩
  | succ t f=>
   rw[h,f]
   constructor
   · rintro(⟨u,h1,h2⟩ | h2)
     · exact⟨u,by omega,h2⟩
     · exact⟨t,by omega,h2⟩
   · rintro⟨u,h1,h2⟩
     by_cases e:u=t
     · subst e;exact .inr h2
     · exact .inl ⟨u,by omega,h2⟩
 have b:∀t,s t->∃u,E u:=λt ht=>((d t).1 ht).elim λu a=>⟨u,a.2⟩
 refine⟨⟨λc=>?_,λ⟨t,ht⟩ N=>⟨max N (t+1),by omega,(d _).2 ⟨t,by omega,ht⟩⟩⟩,⟨λc t ht=>?_,λhn N=>⟨N,Nat.le_refl _,λhs=>?_⟩⟩,b⟩
 · obtain⟨m,_,hm⟩:=c 0
   exact b m hm
 · obtain⟨m,h1,h2⟩:=c (t+1)
   exact h2 ((d m).2 ⟨t,by omega,ht⟩)
 · obtain⟨u,a⟩:=b N hs
   exact hn u a
section
variable {c:Clause}{L:Nat->Int}(k1:1<=c.Kind) (k7:c.Kind<=7)
include k1 k7
theorem oY:∀t,0<=mrun c L t/\mrun c L t<monStates c.Kind
 | 0=>by
  show(0:Int)<=0/\(0:Int)<_
  unfold monStates
  (repeat' split) <;> omega
 | t+1=>pL k1 k7 (oY t).1 (oY t).2 _ _
theorem pa:Sat c L↔Well (monPair c.Kind).Ask (monPair c.Kind).Give (mrun c L):=by
 have d:=oY (L:=L) k1 k7
 have b:∀t,mrun c L (t+1)=monNext c.Kind (mrun c L t) (decide (L t∈c.A)) (decide (L t∈c.B)):=λt=>rfl
 have h0:mrun c L 0=0:=rfl
 generalize mrun c L=s at *
 have C:¬Par.Io λt=>s t∈([]:List Int):=λh=>by
  obtain⟨m,_,hm⟩:=h 0
  cases hm
 have nw:∀A,Well A [] s↔¬Par.Io λt=>s t∈A:=λA=>⟨λh f=>C (h f),λh f=>absurd f h⟩
 have g:∀a:Int,(Par.Io λt=>s t∈[a])↔Par.Io λt=>s t=a:=λa=>fp λt=>z6
 unfold Sat
 rcases kinds k1 k7 with k | k | k | k | k | k | k <;> rw[k]at d b ⊢ <;> simp only[monNext,monStates,b01,mx]at d b <;> simp(config:={ decide:=true }) only[if_true,if_false]at d b ⊢
 · show _↔Well [1] [] s
   have o:=pP (s:=λt=>s t=1) (E:=λt=>L t∉c.A) (by simp[h0]) (λt=>by
    rw[b]
    rcases(show s t=0\/s t=1 by have:=d t;omega) with e | e <;> by_cases h:L t∈c.A <;> simp[e,h])
   rw[nw,g,o.1]
   exact⟨λh ⟨t,ht⟩=>ht (h t),λh t=>Classical.byContradiction λhn=>h ⟨t,hn⟩⟩
 · show _↔Well [2] [] s
   have o:=pP (s:=λt=>s t=2) (E:=λt=>s t=1/\L t∉c.B) (by simp[h0]) (λt=>by
    rw[b]
    by_cases hb:L t∈c.B <;> by_cases e:s t=2 <;> by_cases i:s t=1 <;> by_cases ha:L t∈c.A <;> simp_all)
   rw[nw,g,o.1]
   refine⟨λh ⟨t,h1,h2⟩=>?_,λh t ha=>Classical.byContradiction λhn=>h ?_⟩
   · cases t with
     | zero=>rw[h0]at h1;cases h1
     | succ t=>
      refine h2 (h t ?_)
      rw[b]at h1
      by_cases ha:L t∈c.A
      · exact ha
      · exfalso
        simp only[ha,decide_false]at h1
        split at h1 <;> simp at h1
   · by_cases e:s (t+1)=2
     · exact o.2.2 _ e
     · refine⟨t+1,?_,hn⟩
       rw[b]at e ⊢
       split at e
       · exact absurd rfl e
       · rename_i x
         rw[if_neg x,decide_eq_true ha];rfl
 · show _↔Well [1] [0] s
   unfold Well
   rw[g,g]
   constructor
   · intro h F N
     apply Classical.byContradiction
     intro hn
     have h1:∀t,N<=t->s t=1:=λt ht=>by
      have:=d t
      have:¬s t=0:=λe=>hn ⟨t,ht,e⟩
      omega
     -- from when on it waits
     have B:∀t,s t=1->∃u,u<t/\L u∈c.A/\∀v,u<=v->v<t->L v∉c.B:=λt=>by
      induction t with
      | zero=>intro e;rw[h0]at e;cases e
      | succ t n=>
       intro e
       rw[b]at e
       by_cases hb:L t∈c.B
       · simp[hb]at e
       · by_cases i:s t=1
         · obtain⟨u,D,p,q⟩:=n i
           exact⟨u,by omega,p,λv j l=>by
            by_cases w:v=t
            · subst w;exact hb
            · exact q v j (by omega)⟩
         · by_cases ha:L t∈c.A
           · exact⟨t,by omega,ha,λv j l=>by rw[show v=t by omega];exact hb⟩
           · exfalso
             have:=d t
             have:s t=0:=by omega
             simp[hb,ha,this]at e
     obtain⟨u,D,p,q⟩:=B N (h1 N (Nat.le_refl _))
     obtain⟨v,j,l⟩:=h u p
     by_cases z:v<N
     · exact q v j z l
     · have:=h1 (v+1) (by omega)
       rw[b]at this
       simp[l]at this
   · intro h t ha
     apply Classical.byContradiction
     intro hn
     have h1:∀u,t<u->s u=1:=λu=>by
      induction u with
      | zero=>intro y;omega
      | succ u n=>
       intro y
       have hb:L u∉c.B:=λhb=>hn ⟨u,by omega,hb⟩
       rw[b]
       by_cases e:t=u
       · subst e
         have:=d t
         by_cases i:s t=1
         · simp[hb,ha,i]
         · have:s t=0:=by omega
           simp[hb,ha,this]
       · have i:=n (by omega)
         by_cases ha:L u∈c.A <;> simp[hb,ha,i]
     obtain⟨m,G,r⟩:=h (λN=>⟨max N (t+1),by omega,h1 _ (by omega)⟩) (t+1)
     rw[h1 m (by omega)]at r
     cases r
 · show _↔Well [0,1] [1] s
   unfold Well
   rw[g,nM (S:=λt=>s t=1) (T:=λt=>L t∈c.A) (λt=>by rw[b];by_cases h:L t∈c.A <;> simp[h])]
   exact⟨λh _=>h,λh=>h λN=>⟨N,Nat.le_refl _,by have:=d N;simp;omega⟩⟩
 · show _↔Well [1] [] s
   rw[nw,g,nM (S:=λt=>s t=1) (T:=λt=>L t∉c.A) (λt=>by rw[b];by_cases h:L t∈c.A <;> simp[h])]
 · show _↔Well [0] [] s
   have o:=pP (s:=λt=>s t=1) (E:=λt=>L t∈c.A) (by simp[h0]) (λt=>by
    rw[b]
    rcases(show s t=0\/s t=1 by have:=d t;omega) with e | e <;> by_cases h:L t∈c.A <;> simp[e,h])
   rw[nw,g,fp (S:=λt=>s t=0) (T:=λt=>¬s t=1) (λt=>by have:=d t;omega),o.2.1]
   exact⟨λ⟨t,ht⟩ h=>h t ht,λh=>Classical.byContradiction λhn=>h λt ht=>hn ⟨t,ht⟩⟩
 · show _↔Well [2,3] [1,3] s
   unfold Well
   rw[nM (S:=λt=>s t∈[2,3]) (T:=λt=>L t∈c.A) (λt=>by rw[b];by_cases h:L t∈c.A <;> by_cases f:L t∈c.B <;> simp[h,f]),
    nM (S:=λt=>s t∈[1,3]) (T:=λt=>L t∈c.B) (λt=>by rw[b];by_cases h:L t∈c.A <;> by_cases f:L t∈c.B <;> simp[h,f])]
end
end Go.Proofs.YtleekpaohfpooaaGreat
set_option linter.unusedVariables false
set_option linter.unusedSimpArgs false
namespace Go.Proofs.YtleekpaohfpooaaGreat
open Go Go.Wk Go.Proofs
end Go.Proofs.YtleekpaohfpooaaGreat
set_option linter.unusedVariables false
set_option linter.unusedSimpArgs false
namespace Go.Proofs.YtleekpaohfpooaaGreat
open Go Go.Wk Go.Proofs
end Go.Proofs.YtleekpaohfpooaaGreat
set_option linter.unusedVariables false
set_option linter.unusedSimpArgs false
namespace Go.Proofs.YtleekpaohfpooaaGreat
open Go Go.Wk Go.Proofs
end Go.Proofs.YtleekpaohfpooaaGreat
set_option linter.unusedVariables false
set_option linter.unusedSimpArgs false
namespace Go.Proofs.YtleekpaohfpooaaGreat
open Go Go.Wk Go.Proofs
def ixW (s l t:Nat):Nat:=if t<s then t else s+(t-s) % l
def ltW (w:Word) (t:Nat):Int:=(w.Stem++w.Loop).getD (ixW w.Stem.length w.Loop.length t) 0
section
variable {w:Word}(hl:0<w.Loop.length)
include hl
theorem y4 (t:Nat):ixW w.Stem.length w.Loop.length t<(w.Stem++w.Loop).length:=by
 have:=Nat.mod_lt (t-w.Stem.length) hl
 unfold ixW
 rw[z5]
 split <;> omega
theorem rJ (t:Nat):(w.Stem++w.Loop)[ixW w.Stem.length w.Loop.length t]? =some (ltW w t):=by
 unfold ltW
 rw[List.getD_eq_getElem?_getD,bJ (y4 hl t)];rfl
omit hl in
theorem wF {i:Nat}(hi:i<(w.Stem++w.Loop).length):ixW w.Stem.length w.Loop.length i=i:=by
 rw[z5]at hi
 unfold ixW
 split
 · rfl
 · rw[Nat.mod_eq_of_lt (by omega)];omega
theorem y5 {i:Nat}{x:Int}(h:(w.Stem++w.Loop)[i]? =some x):ltW w i=x:=by
 have:=rJ hl i
 rw[wF (bK.1 h).1,h]at this
 exact(Option.some.inj this).symm
theorem xU (t:Nat):ltW w t∈w.Stem++w.Loop:=bQ (rJ hl t)
end
end Go.Proofs.YtleekpaohfpooaaGreat
set_option linter.unusedVariables false
set_option linter.unusedSimpArgs false
namespace Go.Proofs.YtleekpaohfpooaaGreat
open Go Go.Wk Go.Proofs
def rowOk (p:Sig) (m:Machine) (i:Nat) (row:List Int):Bool:=
 match m.Out[i]? with
 | some o=>((row.length:Int)==pw p.In)&&((o.length:Int)==(row.length:Int))&&row.all (inR (m.Next.length:Int))&&o.all (inR (pw p.Out))
 | none=>false
def machOk (p:Sig) (m:Machine):Bool:=decide (1<=(m.Next.length:Int))&&decide ((m.Next.length:Int)<=48)&&((m.Out.length:Int)==(m.Next.length:Int))&&m.Next.zipIdx.all (λx=>rowOk p m x.2 x.1)
theorem mr (p:Sig) (m:Machine):eF p m=some (sigOk p&&machOk p m):=by
 unfold eF machOk
 rw[fJ,bI]
 cases hs:sigOk p with
 | false=>rfl
 | true=>
  obtain⟨b,c⟩:=ez hs
  have g:=gk p.In
  have j:=gk p.Out
  simp only[zZ,cond_false,cV,bI,Bool.true_and]
  cases h1:(decide (1<=(m.Next.length:Int))&&decide ((m.Next.length:Int)<=48)) with
  | false=>rfl
  | true=>
   simp only[sh,decide_eq_true_eq]at h1
   simp only[zZ,cond_false,bI,Bool.true_and,bne]
   cases h2:((m.Out.length:Int)==(m.Next.length:Int)) with
   | false=>rfl
   | true=>
    have h2:=beq_iff_eq.1 h2
    rw[kT (f:=fF p m) (r:=false) (rowOk p m) (xs:=m.Next) rfl (λi row hx=>by
     have e:=(bK.1 hx).1
     obtain⟨o,a⟩:∃o,m.Out[i]? =some o:=⟨_,bJ (by omega)⟩
     have d:rowOk p m i row=(((row.length:Int)==pw p.In)&&((o.length:Int)==(row.length:Int))&&row.all (inR (m.Next.length:Int))&&o.all (inR (pw p.Out))):=by unfold rowOk;rw[a]
     rw[d]
     unfold fF
     rw[bS,bS,hx,a]
     simp only[bI,iJ,dg b,dg c,kP row (n:=(m.Next.length:Int)) (by omega) (by omega),kP o (n:=pw p.Out) (by omega) (by omega),bne]
     generalize((row.length:Int)==pw p.In)=b1
     generalize((o.length:Int)==(row.length:Int))=b2
     generalize row.all (inR (m.Next.length:Int))=b3
     generalize o.all (inR (pw p.Out))=b4
     cases b1 <;> cases b2 <;> cases b3 <;> cases b4 <;> rfl)]
    simp only[zZ,cond_false,bI,Bool.true_and]
    cases List.all m.Next.zipIdx (λx=>rowOk p m x.2 x.1) <;> rfl
theorem io {p:Sig}(hs:sigOk p=true) (m:Machine):gW p m=some (machOk p m):=by
 unfold gW machOk
 obtain⟨d,a⟩:=ez hs
 simp only[orE,bI,tX,bne]
 rw[← Bool.not_and,← Bool.not_and]
 cases h1:(decide (1<=(m.Next.length:Int))&&decide ((m.Next.length:Int)<=48)&&((m.Out.length:Int)==(m.Next.length:Int))) with
 | false=>rfl
 | true=>
  simp only[sh,decide_eq_true_eq,beq_iff_eq]at h1
  simp only[zZ,cond_false,bI,Bool.true_and]
  rw[kT (f:=fj p m) (r:=false) (rowOk p m) (xs:=m.Next) rfl (λi row hx=>by
   have e:=(bK.1 hx).1
   obtain⟨o,b⟩:∃o,m.Out[i]? =some o:=⟨_,bJ (by omega)⟩
   have c:rowOk p m i row=(((row.length:Int)==pw p.In)&&((o.length:Int)==(row.length:Int))&&row.all (inR (m.Next.length:Int))&&o.all (inR (pw p.Out))):=by unfold rowOk;rw[b]
   rw[c]
   unfold fj
   rw[bS,bS,hx,b]
   simp only[bI,mY hs,(oS a).1,(oS a).2,oN,bne]
   generalize((row.length:Int)==pw p.In)=b1
   generalize((o.length:Int)==(row.length:Int))=b2
   generalize row.all (inR (m.Next.length:Int))=b3
   generalize o.all (inR (pw p.Out))=b4
   cases b1 <;> cases b2 <;> cases b3 <;> cases b4 <;> rfl)]
  cases List.all m.Next.zipIdx (λx=>rowOk p m x.2 x.1) <;> rfl
theorem cB {p:Sig}{m:Machine}(h:machOk p m=true):1<=m.Next.length/\m.Next.length<=48/\m.Out.length=m.Next.length /\
 (∀row∈m.Next,RowIn m.Next.length (pw p.In) row)/\(∀row∈m.Out,RowIn (pw p.Out) (pw p.In) row):=by
 simp only[machOk,sh,decide_eq_true_eq,beq_iff_eq]at h
 obtain⟨⟨⟨h1,h2⟩,k⟩,c⟩:=h
 rw[List.all_eq_true]at c
 have e:∀(i:Nat) row,m.Next[i]? =some row->∃o,m.Out[i]? =some o/\RowIn m.Next.length (pw p.In) row/\RowIn (pw p.Out) (pw p.In) o:=λi row hr=>by
  have:=c (row,i) (List.mem_zipIdx_iff_getElem?.2 hr)
  unfold rowOk at this
  cases b:m.Out[i]? with
  | none=>simp[b]at this
  | some o=>
   simp only[b,sh,beq_iff_eq,List.all_eq_true,fg]at this
   obtain⟨⟨⟨k1,n⟩,g⟩,j⟩:=this
   exact⟨o,rfl,⟨k1,g⟩,⟨by omega,j⟩⟩
 refine⟨by omega,by omega,by omega,λrow hr=>?_,λo b=>?_⟩
 · obtain⟨i,a⟩:=List.mem_iff_getElem?.1 hr
   exact(e i row a).choose_spec.2.1
 · obtain⟨i,a⟩:=List.mem_iff_getElem?.1 b
   have l:=(bK.1 a).1
   obtain⟨q,d,_,f⟩:=e i _ (bJ (by omega))
   rw[a]at d
   cases d
   exact f
end Go.Proofs.YtleekpaohfpooaaGreat
set_option linter.unusedVariables false
set_option linter.unusedSimpArgs false
namespace Go.Proofs.YtleekpaohfpooaaGreat
open Go Go.Wk Go.Proofs
theorem oo {p:Sig}{m:Machine}(h1:1<=m.Next.length) (h2:m.Next.length<=48) (b:m.Out.length=m.Next.length) (c:∀row∈m.Next,RowIn m.Next.length (pw p.In) row) (d:∀row∈m.Out,RowIn (pw p.Out) (pw p.In) row):machOk p m=true:=by
 unfold machOk
 rw[b]
 simp only[sh,decide_eq_true_eq,beq_self_eq_true,and_true,List.all_eq_true]
 refine⟨by omega,λx hx=>?_⟩
 obtain⟨row,i⟩:=x
 rw[List.mem_zipIdx_iff_getElem?]at hx
 have hx:m.Next[i]? =some row:=hx
 have f:=(bK.1 hx).1
 have e:m.Out[i]? =some (m.Out[i]'(by omega)):=bJ (by omega)
 have a:=d _ (List.getElem_mem (by omega:i<m.Out.length))
 obtain⟨a1,a2⟩:=c row (bQ hx)
 unfold rowOk
 rw[e]
 simp only[sh,beq_iff_eq,List.all_eq_true,fg]
 exact⟨⟨⟨a1,by rw[a1];exact a.1⟩,a2⟩,a.2⟩
end Go.Proofs.YtleekpaohfpooaaGreat
set_option linter.unusedVariables false
set_option linter.unusedSimpArgs false
namespace Go.Proofs.YtleekpaohfpooaaGreat
open Go Go.Wk Go.Proofs
section
variable {p:Sig}{m:Machine}(hm:machOk p m=true)
include hm
end
end Go.Proofs.YtleekpaohfpooaaGreat
set_option linter.unusedVariables false
set_option linter.unusedSimpArgs false
namespace Go.Proofs.YtleekpaohfpooaaGreat
open Go Go.Wk Go.Proofs
section
variable {p:Sig}{m:Machine}(hm:machOk p m=true)
include hm
end
end Go.Proofs.YtleekpaohfpooaaGreat
set_option linter.unusedVariables false
set_option linter.unusedSimpArgs false
namespace Go.Proofs.YtleekpaohfpooaaGreat
open Go Go.Wk Go.Proofs
def seg (X:Nat->Int):Nat->Nat->List Int
 | _,0=>[]
 | t,n+1=>X t::seg X (t+1) n
theorem sn (X:Nat->Int):∀n t,(seg X t n).length=n
 | 0,_=>rfl
 | n+1,t=>congrArg (· + 1) (sn X n (t+1))
theorem vq (X:Nat->Int):∀n t i,i<n->(seg X t n)[i]? =some (X (t+i))
 | n+1,t,0,_=>rfl
 | n+1,t,i+1,h=>by
  show(seg X (t+1) n)[i]? =_
  rw[vq X n (t+1) i (by omega),show t+1+i=t+(i+1) by omega]
theorem vp {X:Nat->Int}{xs:List Int}{t:Nat}(h:∀i x,xs[i]? =some x->X (t+i)=x):xs=seg X t xs.length:=List.ext_getElem? λi=>by
 by_cases a:i<xs.length
 · rw[vq X _ t i a,bJ a,h i _ (bJ a)]
 · rw[List.getElem?_eq_none (by omega),List.getElem?_eq_none (by rw[sn];omega)]
theorem wL {w:Word}(c:0<w.Loop.length) (j:Nat):w.Loop=seg (ltW w) (w.Stem.length+j * w.Loop.length) w.Loop.length:=vp λi x a=>by
 have b:=(bK.1 a).1
 have:=rJ c (w.Stem.length+j * w.Loop.length+i)
 unfold ixW at this
 rw[if_neg (by omega),show w.Stem.length+j * w.Loop.length+i-w.Stem.length=i+w.Loop.length * j by rw[Nat.mul_comm];omega,Nat.add_mul_mod_self_left,Nat.mod_eq_of_lt b,List.getElem?_append_right (by omega),show w.Stem.length+i-w.Stem.length=i by omega,a]at this
 exact(Option.some.inj this).symm
def runM (m:Machine) (I:Nat->Int):Nat->Int
 | 0=>0
 | t+1=>tab m.Next (runM m I t) (I t)
def letM (p:Sig) (m:Machine) (I:Nat->Int) (t:Nat):Int:=tab m.Out (runM m I t) (I t) * pw p.In+I t
section
variable {p:Sig}{m:Machine}(hm:machOk p m=true)
include hm
theorem rU {I:Nat->Int}(hI:∀t,0<=I t/\I t<pw p.In):∀t,0<=runM m I t/\runM m I t<m.Next.length
 | 0=>by
  obtain⟨d,_⟩:=cB hm
  show(0:Int)<=0/\(0:Int)<_
  omega
 | t+1=>by
  obtain⟨_,_,_,a,_⟩:=cB hm
  obtain⟨_,_,_,b,c⟩:=jK a (rU hI t).1 (rU hI t).2 (hI t).1 (hI t).2
  exact⟨b,c⟩
end
end Go.Proofs.YtleekpaohfpooaaGreat
set_option linter.unusedVariables false
set_option linter.unusedSimpArgs false
namespace Go.Proofs.YtleekpaohfpooaaGreat
open Go Go.Wk Go.Proofs
theorem nN (f:Int->Bool) (xs:List Int) (p:Nat):∀n:Nat,cT f xs n<(p:Int)↔∀(j:Nat) x,p<=j->j<n->xs[j]? =some x->f x=false
 | 0=>⟨λ_ j x _ h=>absurd h (Nat.not_lt_zero j),λ_=>by unfold cT;omega⟩
 | n+1=>by
  have b:=nN f xs p n
  have c:∀j,j<n+1->j<n\/j=n:=λj hj=>by omega
  unfold cT
  cases hx:xs[n]? with
  | none=>
   dsimp only
   rw[cond_false,b]
   exact⟨λh j x h1 h2 a=>(c j h2).elim (λh2=>h j x h1 h2 a) λe=>by(subst e;rw[hx]at a;cases a),λh j x h1 h2=>h j x h1 (by omega)⟩
  | some y=>
   dsimp only
   cases hf:f y with
   | true=>
    rw[cond_true]
    refine⟨λh j x h1 h2=>by omega,λh=>Classical.byContradiction λhn=>?_⟩
    rw[h n y (by omega) (by omega) hx]at hf
    cases hf
   | false=>
    rw[cond_false,b]
    exact⟨λh j x h1 h2 a=>(c j h2).elim (λh2=>h j x h1 h2 a) λe=>by(subst e;rw[hx]at a;cases a;exact hf),λh j x h1 h2=>h j x h1 (by omega)⟩
theorem pE {f:Int->Bool}{xs:List Int}{j:Nat}:∀{n:Nat},cT f xs n=(j:Int)->∃x,xs[j]? =some x/\f x=true
 | 0,h=>by unfold cT at h;omega
 | n+1,h=>by
  unfold cT at h
  cases hx:xs[n]? with
  | none=>
   rw[hx]at h
   dsimp only at h
   rw[cond_false]at h
   exact pE h
  | some y=>
   rw[hx]at h
   dsimp only at h
   cases hf:f y with
   | true=>
    rw[hf,cond_true]at h
    have:n=j:=by omega
    subst this
    exact⟨y,hx,hf⟩
   | false=>
    rw[hf,cond_false]at h
    exact pE h
theorem mn (ps:List Pair) (rc:List Int) (v:Int):(kF ps rc v=0/\cT (askI ps v) rc rc.length<0/\cT (cR ps v) rc rc.length<0) \/
 (cT (cR ps v) rc rc.length<cT (askI ps v) rc rc.length/\kF ps rc v=2 * cT (askI ps v) rc rc.length+1)\/(cT (askI ps v) rc rc.length<=cT (cR ps v) rc rc.length/\0<=cT (cR ps v) rc rc.length/\kF ps rc v=2 * cT (cR ps v) rc rc.length+2):=by
 have a:=ir (askI ps v) rc rc.length
 have g:=ir (cR ps v) rc rc.length
 unfold kF
 generalize cT (askI ps v) rc rc.length=x at *
 generalize cT (cR ps v) rc rc.length=y at *
 by_cases h1:x<0 <;> by_cases h2:y<0 <;> by_cases b:y<x <;> simp[h1,h2,b] <;> omega
theorem frozen {G:Int->Bool}{xs:List Int}{p:Nat}(h:∀(j:Nat) x,p<=j->xs[j]? =some x->G x=false){j:Nat}(hj:p<=j):(xs.filter G++xs.filter λx=> !G x)[j]? =xs[j]?:=by
 have hd:∀x∈xs.drop p,G x=false:=λx hx=>by
  obtain⟨i,a⟩:=List.getElem?_of_mem hx
  rw[List.getElem?_drop]at a
  exact h _ x (by omega) a
 have h1:(xs.drop p).filter G=[]:=List.filter_eq_nil_iff.2 λx hx=>by rw[hd x hx];simp
 have h2:((xs.drop p).filter λx=> !G x)=xs.drop p:=List.filter_eq_self.2 λx hx=>by rw[hd x hx];rfl
 have e:=List.take_append_drop p xs
 have b:=lH G (xs.take p)
 have c:(xs.take p).length<=p:=by rw[z9];omega
 conv=>rw[← e]
 rw[List.filter_append,List.filter_append,h1,h2,List.append_nil,← List.append_assoc,List.getElem?_append_right (by rw[z5];omega),List.getElem?_append_right (by omega),z5,b]
theorem moved {G:Int->Bool}{xs:List Int}{p:Nat}{i:Int}(hp:xs[p]? =some i) (hi:G i=false):∃a,p<=a/\(xs.filter G++xs.filter λx=> !G x)[a]? =some i/\(a=p->∀(j:Nat) x,p<=j->xs[j]? =some x->G x=false):=by
 obtain⟨A,B,e,d⟩:∃A B,xs=A++i::B/\A.length=p:=by
  obtain⟨hl,b⟩:=bK.1 hp
  refine⟨xs.take p,xs.drop (p+1),?_,by rw[z9];omega⟩
  have:=List.drop_eq_getElem_cons hl
  rw[b]at this
  rw[← this,List.take_append_drop]
 subst e
 have c:=lH G A
 refine⟨p+(B.filter G).length,by omega,?_,λe j x hj hx=>?_⟩
 · rw[List.filter_append,List.filter_append,List.filter_cons_of_neg (by rw[hi];simp),List.filter_cons_of_pos (by rw[hi];rfl),List.getElem?_append_right (by rw[z5];omega),List.getElem?_append_right (by rw[z5];omega),z5]
   rw[show p+(B.filter G).length-((A.filter G).length+(B.filter G).length)-(A.filter λx=> !G x).length=0 by omega];rfl
 · have hB:B.filter G=[]:=List.length_eq_zero_iff.1 (by omega)
   rw[List.getElem?_append_right (by omega)]at hx
   match hq:j-A.length,hx with
   | 0,hx=>cases hx;exact hi
   | q+1,hx=>
    have:=List.filter_eq_nil_iff.1 hB x (bQ hx)
    simpa using this
theorem ww {Q:Nat->Prop}:∀{b:Nat},(∃n,Q n)->(∀n,Q n->n<b)->∃n,Q n/\∀m,Q m->m<=n
 | 0,⟨n,hn⟩,hb=>absurd (hb n hn) (Nat.not_lt_zero n)
 | b+1,h,hb=>by
  by_cases a:Q b
  · exact⟨b,a,λm hm=>by have:=hb m hm;omega⟩
  · exact ww (b:=b) h λn hn=>by
     have:=hb n hn
     have:n≠b:=λe=>a (e ▸ hn)
     omega
section
variable {ps:List Pair}{k:Nat}{v:Nat->Int}{rc:Nat->List Int}(hk:∀t,(rc t).length=k) (hn:∀t,rc (t+1)=iv ps (rc t) (v t)){d:Int}(hio:Par.Io λt=>kF ps (rc t) (v t)=d){N:Nat}(hle:∀t,N<=t->kF ps (rc t) (v t)<=d)
include hk hn hio hle
omit hk in
theorem ya (hd:d % 2=1):∃i,i∈rc 0/\(Par.Io λt=>askI ps (v t) i=true)/\¬Par.Io λt=>cR ps (v t) i=true:=by
 obtain⟨a,ha⟩:∃a:Nat,d=2 * (a:Int)+1:=by
  obtain⟨t,_,ht⟩:=hio 0
  have:=ir (askI ps (v t)) (rc t) (rc t).length
  have:=ir (cR ps (v t)) (rc t) (rc t).length
  rcases mn ps (rc t) (v t) with h | h | h
  · omega
  · exact⟨(cT (askI ps (v t)) (rc t) (rc t).length).toNat,by omega⟩
  · omega
 have p:∀t,N<=t->∀(j:Nat) x,a<=j->(rc t)[j]? =some x->cR ps (v t) x=false:=λt ht j x hj hx=>by
  refine(nN (cR ps (v t)) (rc t) a (rc t).length).1 ?_ j x hj (bK.1 hx).1 hx
  have:=hle t ht
  rcases mn ps (rc t) (v t) with h | h | h <;> omega
 have hf:∀m,(rc (N+m))[a]? =(rc N)[a]?:=λm=>by
  induction m with
  | zero=>rfl
  | succ m k=>
   rw[← k,show N+(m+1)=N+m+1 from rfl,hn]
   exact frozen (p _ (by omega)) (Nat.le_refl a)
 have o:∀t,N<=t->kF ps (rc t) (v t)=d->∃x,(rc N)[a]? =some x/\askI ps (v t) x=true:=λt ht e=>by
  obtain⟨x,c,l⟩:=pE (f:=askI ps (v t)) (xs:=rc t) (j:=a) (n:=(rc t).length) (by rcases mn ps (rc t) (v t) with h | h | h <;> omega)
  refine⟨x,?_,l⟩
  rw[← c,← hf (t-N),show N+(t-N)=t by omega]
 obtain⟨u,h0,r⟩:=hio N
 obtain⟨i,g,_⟩:=o u h0 r
 have s:∀t x,x∈rc t->x∈rc 0:=λt=>by
  induction t with
  | zero=>exact λx h=>h
  | succ t k=>
   intro x hx
   rw[hn]at hx
   unfold iv at hx
   rcases Ad.1 hx with h | h <;> exact k x (List.mem_filter.1 h).1
 refine⟨i,s N i (bQ g),λM=>?_,λh=>?_⟩
 · obtain⟨t,q,b⟩:=hio (max M N)
   obtain⟨x,c,l⟩:=o t (by omega) b
   rw[g]at c
   cases c
   exact⟨t,by omega,l⟩
 · obtain⟨t,q,b⟩:=h N
   have:=p t q a i (Nat.le_refl a) (by rw[← g,← hf (t-N),show N+(t-N)=t by omega])
   rw[this]at b
   cases b
theorem vz (hd:d % 2=0){i:Int}(hi:i∈rc 0) (ha:Par.Io λt=>askI ps (v t) i=true):Par.Io λt=>cR ps (v t) i=true:=by
 intro M
 apply Classical.byContradiction
 intro z
 have r:∀t,M<=t->cR ps (v t) i=false:=λt ht=>Bool.eq_false_iff.2 λh=>z ⟨t,ht,h⟩
 have y:∀t,i∈rc t:=λt=>by
  induction t with
  | zero=>exact hi
  | succ t l=>
   rw[hn]
   unfold iv
   rw[Ad,List.mem_filter,List.mem_filter]
   cases cR ps (v t) i <;> simp[l]
 obtain⟨p,⟨a,h0,hp⟩,u⟩:=ww (Q:=λp=>∃t,M<=t/\(rc t)[p]? =some i) (b:=k) (by
  obtain⟨p,hp⟩:=List.getElem?_of_mem (y M)
  exact⟨p,M,Nat.le_refl M,hp⟩) (λp ⟨t,_,hp⟩=>by
  have:=(bK.1 hp).1
  rwa [hk]at this)
 have w:∀m,(rc (a+m))[p]? =some i:=λm=>by
  induction m with
  | zero=>exact hp
  | succ m l=>
   obtain⟨f,A,g,_⟩:=moved l (r (a+m) (by omega))
   have:(rc (a+m+1))[f]? =some i:=by rw[hn];exact g
   have:=u f ⟨_,by omega,this⟩
   have e:f=p:=by omega
   subst e
   rw[show a+(m+1)=a+m+1 from rfl,hn]
   exact g
 have s:∀t,a<=t->cT (cR ps (v t)) (rc t) (rc t).length<(p:Int):=λt ht=>by
  have e:a+(t-a)=t:=by omega
  have h1:=w (t-a)
  rw[e]at h1
  obtain⟨f,A,g,B⟩:=moved h1 (r t (by omega))
  have:=u f ⟨t+1,by omega,by rw[hn];exact g⟩
  exact(nN _ _ p _).2 λj x hj _ hx=>B (by omega) j x hj hx
 obtain⟨c,h1,o⟩:=ha (max a N)
 have a1:=hle c (by omega)
 have a2:=s c (by omega)
 have C:¬cT (askI ps (v c)) (rc c) (rc c).length<(p:Int):=λh=>by
  have h2:=w (c-a)
  rw[show a+(c-a)=c by omega]at h2
  have:=(nN _ _ p _).1 h p i (Nat.le_refl p) (bK.1 h2).1 h2
  rw[this]at o
  cases o
 obtain⟨n,h2,E⟩:=hio a
 have D:=s n h2
 rcases mn ps (rc c) (v c) with h | h | h <;> rcases mn ps (rc n) (v n) with q | q | q <;> omega
end
end Go.Proofs.YtleekpaohfpooaaGreat
set_option linter.unusedVariables false
set_option linter.unusedSimpArgs false
namespace Go.Proofs.YtleekpaohfpooaaGreat
open Go Go.Wk Go.Proofs
def recP (P:List Place) (y:Int):List Int:=match idx P y with | some v=>v.Record | none=>[]
theorem sC {ps:List Pair}{i:Nat}{a:Pair}(h:ps[i]? =some a) (v:Int):askI ps v (i:Int)=true↔v∈a.Ask:=by
 unfold askI
 rw[bS,h]
 simp
theorem qL {ps:List Pair}{i:Nat}{a:Pair}(h:ps[i]? =some a) (v:Int):cR ps v (i:Int)=true↔v∈a.Give:=by
 unfold cR
 rw[bS,h]
 simp
section
variable {d:Det}{n m k:Nat}{A:Arena}{P:List Place}{g:Parity}{W:Int->Prop}{pk:List Int}(h:Cx d n m k A P g W pk){q:Bool}{π:Nat->Int}(hπ:Par.Play (gI g) q (Par.Rg (Xn P.length) (wB W) q) (pkL pk) π) (h0:π 0=0)
include h hπ
theorem Cx.recs (t:Nat):(recP P (π t)).length=d.Pairs.length/\recP P (π (t+1))=iv d.Pairs (recP P (π t)) (atP P (π t))/\(gI g).pri (π t)=kF d.Pairs (recP P (π t)) (atP P (π t)):=by
 obtain⟨⟨hx,_⟩,j,_⟩:=hπ t
 obtain⟨v,a,_,_⟩:=h.place hx
 have hj:P[(π t).toNat]? =some v:=by rw[← cz hx.1];exact a
 have k:=h.rg.game.inn v (bQ hj)
 obtain⟨_,b,r,ar,c,_,f⟩:=h.rg.game.row _ v (bK.1 hj).1 hj
 have i:recP P (π t)=v.Record:=by unfold recP;rw[a]
 rw[i,db a]
 refine⟨k.rl,?_,?_⟩
 · obtain⟨l,u,_,e⟩:=f.to _ ((kA (by rw[cz hx.1];exact c)).1 j)
   unfold recP
   rw[cz l,e]
 · show priL g.Prio (π t)=_
   unfold priL
   rw[cz hx.1,b];rfl
theorem Cx.wins:Par.Wins (gI g) q π:=by
 have c:=h.len.1
 have ha:=h.sol.ans
 rw[c]at ha
 refine ha.wins (n:=P.length) (b:=41) (λv a=>a) (λv a=>?_) hπ
 obtain⟨x,hx⟩:=cF (xs:=g.Prio) a.1 (by rw[c];exact a.2)
 have:=(GOk.of h.ok).pri v x hx
 show 0<=priL g.Prio v/\priL g.Prio v<41
 unfold priL
 rw[hx,Option.getD_some]
 omega
include h0
omit hπ in
theorem Cx.rec0:recP P (π 0)=firstR d.Pairs.length:=by
 rw[h0]
 unfold recP
 rw[show(0:Int)=((0:Nat):Int) from rfl,bS,h.rg.game.zero]
theorem Cx.even (f:q=false){i:Nat}{a:Pair}(hp:d.Pairs[i]? =some a):Well a.Ask a.Give λt=>atP P (π t):=by
 obtain⟨D,b,c,N,e⟩:=h.wins hπ
 have hr:=h.recs hπ
 intro ha
 refine(fp λt=>qL hp _).1 (vz (rc:=λt=>recP P (π t)) (v:=λt=>atP P (π t)) (λt=>(hr t).1) (λt=>(hr t).2.1) (d:=D) (λN=>?_) (N:=N) (λt ht=>?_) ?_ ?_ ((fp λt=>sC hp _).2 ha))
 · obtain⟨t,g,j⟩:=c N
   exact⟨t,g,(hr t).2.2.symm.trans j⟩
 · rw[← (hr t).2.2];exact e t ht
 · subst f
   unfold Par.oddP at b
   have:=of_decide_eq_false b
   omega
 · show(i:Int)∈recP P (π 0)
   rw[h.rec0 h0]
   exact List.mem_map.2 ⟨i,List.mem_range.2 (bK.1 hp).1,rfl⟩
theorem Cx.odd (k:q=true):∃(i:Nat) (b:Pair),d.Pairs[i]? =some b/\¬Well b.Ask b.Give λt=>atP P (π t):=by
 obtain⟨D,c,f,N,g⟩:=h.wins hπ
 have hr:=h.recs hπ
 obtain⟨i,a,m,n⟩:=ya (rc:=λt=>recP P (π t)) (v:=λt=>atP P (π t)) (λt=>(hr t).2.1) (d:=D) (λN=>by
  obtain⟨t,o,p⟩:=f N
  exact⟨t,o,(hr t).2.2.symm.trans p⟩) (N:=N) (λt ht=>by rw[← (hr t).2.2];exact g t ht) (by
  subst k
  exact of_decide_eq_true c)
 have a:i∈recP P (π 0):=a
 rw[h.rec0 h0]at a
 obtain⟨j,hj,e⟩:=List.mem_map.1 a
 have e:(j:Int)=i:=e
 subst e
 have hp:d.Pairs[j]? =some (d.Pairs[j]'(List.mem_range.1 hj)):=bJ _
 exact⟨j,_,hp,λl=>n ((fp λt=>qL hp _).2 (l ((fp λt=>sC hp _).1 m)))⟩
end
def alt (x y:Nat->Int) (t:Nat):Int:=if t % 2=0 then x (t / 2) else y (t / 2)
theorem jo (x y:Nat->Int) (t:Nat):alt x y (2 * t)=x t:=by
 unfold alt
 rw[if_pos (by omega),show 2 * t / 2=t by omega]
theorem nE (x y:Nat->Int) (t:Nat):alt x y (2 * t+1)=y t:=by
 unfold alt
 rw[if_neg (by omega),show(2 * t+1) / 2=t by omega]
theorem oe (t:Nat):(∃s,t=2 * s)\/∃s,t=2 * s+1:=by
 by_cases h:t % 2=0
 · exact .inl ⟨t / 2,by omega⟩
 · exact .inr ⟨t / 2,by omega⟩
theorem wD {x y:Nat->Int}{S:Int->Prop}(hy:∀t,¬S (y t)):(Par.Io λt=>S (alt x y t))↔Par.Io λt=>S (x t):=⟨λh N=>by
 obtain⟨t,b,a⟩:=h (2 * N)
 rcases oe t with ⟨s,rfl⟩ | ⟨s,rfl⟩
 · rw[jo]at a
   exact⟨s,by omega,a⟩
 · rw[nE]at a
   exact absurd a (hy s),λh N=>by
 obtain⟨t,b,a⟩:=h N
 exact⟨2 * t,by omega,by show S (alt x y (2 * t));rw[jo];exact a⟩⟩
theorem tL {x y:Nat->Int}{A G:List Int}{P:List Place}(a:∀t,atP P (y t)∉A) (b:∀t,atP P (y t)∉G):(Well A G λt=>atP P (alt x y t))↔Well A G λt=>atP P (x t):=by
 unfold Well
 rw[wD (S:=λz=>atP P z∈A) a,wD (S:=λz=>atP P z∈G) b]
end Go.Proofs.YtleekpaohfpooaaGreat
set_option linter.unusedVariables false
set_option linter.unusedSimpArgs false
namespace Go.Proofs.YtleekpaohfpooaaGreat
open Go Go.Wk Go.Proofs
theorem ta {d:Det}{m k q i:Nat}{z o:Int}(h:idx (outsL d m k q i z) 0=some o):0<=o/\tab d.Next q (o * m+i)=z:=by
 obtain⟨j,hj,e⟩:=List.mem_map.1 (bQ ((bS (outsL d m k q i z) 0).symm.trans h))
 have h1:=(List.mem_filter.1 hj).2
 have e:(j:Int)=o:=e
 subst e
 have h1:=beq_iff_eq.1 h1
 refine⟨by omega,?_⟩
 rw[← h1]
 simp
theorem sY (f:Nat->Int) (F:List Int){i:Nat}:∀{j:Nat},i<j->∃u:Int,(dr f F j).2[i]? =some u/\0<=u/\(dr f F j).1[u.toNat]? =some (f i)
 | j+1,hi=>by
  have hl:=(mJ f F j).2.2
  show ∃u:Int,((dr f F j).2++[cO (addN (dr f F j).1 (f j)) (f j)])[i]? =some u/\0<=u/\(addN (dr f F j).1 (f j))[u.toNat]? =some (f i)
  by_cases e:i=j
  · subst e
    obtain⟨u,b,c,a⟩:=nU (sy (F:=(dr f F i).1) (t:=f i))
    refine⟨_,by rw[List.getElem?_append_right (by omega),hl,Nat.sub_self];rfl,by rw[b];omega,by rw[b,z7];exact a⟩
  · obtain⟨u,b,c,a⟩:=sY f F (show i<j by omega)
    refine⟨u,by rw[List.getElem?_append_left (by omega)];exact b,c,?_⟩
    unfold addN
    split
    · exact a
    · rw[List.getElem?_append_left (bK.1 a).1];exact a
section
variable {p:Sig}{d:Det}{n m k:Nat}{A:Arena}{P:List Place}{g:Parity}{W:Int->Prop}{pk:List Int}
theorem rE:∀j:Nat,(∀i,i<j->i<(itM d n m k P g pk i).1.length)->(itM d n m k P g pk j).2.1.length=j/\(itM d n m k P g pk j).2.2.length=j/\∀z,z<j->∃x row b,(itM d n m k P g pk j).1[z]? =some x/\(itM d n m k P g pk j).2.1[z]? =some row/\(itM d n m k P g pk j).2.2[z]? =some b /\
 ∀i,i<m->(∃u:Int,row[i]? =some u/\0<=u/\(itM d n m k P g pk j).1[u.toNat]? =some (fM pk P (eB g.Arena x) n m (atP P x).toNat i))/\b[i]? =some (oM d pk P (eB g.Arena x) n m k (atP P x).toNat i)
 | 0,_=>⟨rfl,rfl,λz l=>absurd l (Nat.not_lt_zero z)⟩
 | j+1,hj=>by
  obtain⟨h1,h2,c⟩:=rE j λi a=>hj i (by omega)
  have f:=hj j (by omega)
  unfold itM
  generalize itM d n m k P g pk j=s at *
  obtain⟨F,Nx,Ou⟩:=s
  dsimp only at h1 h2 c f ⊢
  have hx:F[j]? =some F[j]:=bJ f
  have q:F.getD j 0=F[j]:=by rw[List.getD_eq_getElem?_getD,hx];rfl
  rw[q]
  generalize F[j]=x at hx
  refine⟨by rw[z5,h1];rfl,by rw[z5,h2];rfl,λz l=>?_⟩
  by_cases e:z=j
  · subst e
    refine⟨x,_,_,kX _ _ hx m,by rw[List.getElem?_append_right (by omega),h1,Nat.sub_self];rfl,by rw[List.getElem?_append_right (by omega),h2,Nat.sub_self];rfl,λi a=>⟨sY _ _ a,?_⟩⟩
    rw[List.getElem?_map,List.getElem?_range a];rfl
  · obtain⟨y,row,b,a1,a2,o,p⟩:=c z (by omega)
    refine⟨y,row,b,kX _ _ a1 m,by rw[List.getElem?_append_left (by omega)];exact a2,by rw[List.getElem?_append_left (by omega)];exact o,λi a=>?_⟩
    obtain⟨⟨u,r,t,v⟩,w⟩:=p i a
    exact⟨⟨u,r,t,kX _ _ v m⟩,w⟩
def xsM (n m:Nat) (P:List Place) (g:Parity) (pk:List Int) (I:Nat->Nat):Nat->Int
 | 0=>0
 | t+1=>fM pk P (eB g.Arena (xsM n m P g pk I t)) n m (atP P (xsM n m P g pk I t)).toNat (I t)
variable (h:Cx d n m k A P g W pk) (h0:wB W 0=false){I:Nat->Nat}(hI:∀t,I t<m)
include h h0 hI
theorem sv:∀t,∃v,idx P (xsM n m P g pk I t)=some v/\v.At<(n:Int)/\wB W (xsM n m P g pk I t)=false
 | 0=>by
  refine⟨⟨0,firstR d.Pairs.length⟩,?_,?_,h0⟩
  · show idx P ((0:Nat):Int)=_
    rw[bS];exact h.rg.game.zero
  · have:=h.n1
    show(0:Int)<_
    omega
 | t+1=>by
  obtain⟨v,b,j,k⟩:=sv t
  obtain⟨q,r,c,_,e,_,_,hf⟩:=qI h b j k
  obtain⟨_,_,u,_,_,_,_,_,f,i,a,_⟩:=hf (I t) (hI t)
  show ∃v,idx P (fM pk P (eB g.Arena _) n m (atP P _).toNat (I t))=some v/\_/\wB W (fM pk P (eB g.Arena _) n m (atP P _).toNat (I t))=false
  rw[fh e,db b,c,z7]
  exact⟨u,f,by rw[i];exact a.2.2.2,a.2.2.1⟩
theorem xw (t:Nat):atP P (xsM n m P g pk I (t+1))=tab d.Next (atP P (xsM n m P g pk I t)) (oM d pk P (eB g.Arena (xsM n m P g pk I t)) n m k (atP P (xsM n m P g pk I t)).toNat (I t) * m+I t)/\0<=atP P (xsM n m P g pk I t)/\atP P (xsM n m P g pk I t)<n/\0<=oM d pk P (eB g.Arena (xsM n m P g pk I t)) n m k (atP P (xsM n m P g pk I t)).toNat (I t)/\oM d pk P (eB g.Arena (xsM n m P g pk I t)) n m k (atP P (xsM n m P g pk I t)).toNat (I t)<k:=by
 obtain⟨v,a,l,o⟩:=sv h h0 hI t
 obtain⟨q,r,b,p,c,_,_,hf⟩:=qI h a l o
 obtain⟨_,_,u,_,_,_,_,_,s,i,_,j,e,f⟩:=hf (I t) (hI t)
 show atP P (fM pk P (eB g.Arena _) n m (atP P _).toNat (I t))=_/\_
 rw[fh c,db a,b,z7]
 exact⟨by rw[← i];exact(ta j).2.symm,by omega,by omega,e,f⟩
theorem xx (hc:∀a∈d.Pairs,(∀z∈a.Ask,z<(n:Int))/\∀z∈a.Give,z<(n:Int)){i:Nat}{a:Pair}(hp:d.Pairs[i]? =some a):Well a.Ask a.Give λt=>atP P (xsM n m P g pk I t):=by
 have k:∀t,∃y:Int,tgt P (eB g.Arena (xsM n m P g pk I t)) ((n+((atP P (xsM n m P g pk I t)).toNat * m+I t):Nat):Int)=y/\(n:Int)<=atP P y/\Par.Rg (Xn P.length) (wB W) false (xsM n m P g pk I t)/\(gI g).own (xsM n m P g pk I t)=true/\(gI g).E (xsM n m P g pk I t) y/\Par.Rg (Xn P.length) (wB W) false y/\(gI g).E y (xsM n m P g pk I (t+1))/\xsM n m P g pk I (t+1)=pkL pk y:=λt=>by
  obtain⟨v,c,Q,f⟩:=sv h h0 hI t
  have o:Xn P.length (xsM n m P g pk I t):=⟨(c8 c).1,(c8 c).2.1⟩
  obtain⟨p,q,r,F,J,j,K,H⟩:=h.state c Q
  obtain⟨l,E,_⟩:=ss (H (I t) (hI t))
  show ∃y:Int,_/\_/\_/\_/\_/\_/\(gI g).E y (fM pk P (eB g.Arena _) n m (atP P _).toNat (I t))/\fM pk P (eB g.Arena _) n m (atP P _).toNat (I t)=pkL pk y
  rw[fh j,db c,F,z7]
  have b:=(K _ l).1
  have u:=h.yours o (by rw[p,f];simp) ((kA j).2 l) b
  obtain⟨O,_⟩:=h.mid b J (hI t) E
  obtain⟨to,M,_,L,_⟩:=h.mine b (by rw[O,u,f])
  refine⟨_,rfl,by rw[E];omega,⟨o,f⟩,p,(kA j).2 l,⟨b,u.trans f⟩,?_,rfl⟩
  unfold fM
  rw[nv M];exact L
 have N:=h.even (q:=false) (π:=alt (xsM n m P g pk I) λt=>tgt P (eB g.Arena (xsM n m P g pk I t)) ((n+((atP P (xsM n m P g pk I t)).toNat * m+I t):Nat):Int)) (λt=>by
  rcases oe t with ⟨s,rfl⟩ | ⟨s,rfl⟩
  · obtain⟨y,k1,w,x,A,B,C,k7,D⟩:=k s
    rw[nE,jo,k1]
    exact⟨x,B,λe=>absurd (A.symm.trans e) (by decide)⟩
  · obtain⟨y,k1,w,x,A,B,C,k7,D⟩:=k s
    rw[show 2 * s+1+1=2 * (s+1) by omega,nE,jo,k1]
    exact⟨C,k7,λ_=>D⟩) (jo _ _ 0) rfl hp
 obtain⟨c1,c2⟩:=hc a (bQ hp)
 have hy:∀(S:List Int),(∀z∈S,z<(n:Int))->∀t,atP P (tgt P (eB g.Arena (xsM n m P g pk I t)) ((n+((atP P (xsM n m P g pk I t)).toNat * m+I t):Nat):Int))∉S:=λS G t hm=>by
  obtain⟨y,k1,w,_⟩:=k t
  rw[k1]at hm
  have:=G _ hm
  omega
 exact(tL (hy _ c1) (hy _ c2)).1 N
end
section
variable {p:Sig}{d:Det}{n m k:Nat}{A:Arena}{P:List Place}{g:Parity}{W:Int->Prop}{pk:List Int}(h:Cx d n m k A P g W pk) (h0:wB W 0=false) (hm:pw p.In=(m:Int)) (hk:pw p.Out=(k:Int)){j:Nat}(hj:∀i,i<j->i<(itM d n m k P g pk i).1.length) (hjl:j=(itM d n m k P g pk j).1.length){I:Nat->Int}(hI:∀t,0<=I t/\I t<m)
include h h0 hm hj hjl hI
theorem zw (t:Nat):0<=runM ⟨(itM d n m k P g pk j).2.1,(itM d n m k P g pk j).2.2⟩ I t/\(itM d n m k P g pk j).1[(runM ⟨(itM d n m k P g pk j).2.1,(itM d n m k P g pk j).2.2⟩ I t).toNat]? =some (xsM n m P g pk (λt=>(I t).toNat) t) /\
 letM p ⟨(itM d n m k P g pk j).2.1,(itM d n m k P g pk j).2.2⟩ I t=oM d pk P (eB g.Arena (xsM n m P g pk (λt=>(I t).toNat) t)) n m k (atP P (xsM n m P g pk (λt=>(I t).toNat) t)).toNat (I t).toNat * m+(I t).toNat:=by
 obtain⟨C,D,l⟩:=rE j hj
 have hM:=gg h h0 j hj
 have o:∀(T:List (List Int)) (z:Int) row (i u:Int),0<=z->0<=i->T[z.toNat]? =some row->row[i.toNat]? =some u->tab T z i=u:=λT z row i u _ _ h1 h2=>by
  unfold tab
  rw[List.getD_eq_getElem?_getD,List.getD_eq_getElem?_getD,h1,Option.getD_some,h2,Option.getD_some]
 have v:∀t,0<=runM ⟨(itM d n m k P g pk j).2.1,(itM d n m k P g pk j).2.2⟩ I t/\(itM d n m k P g pk j).1[(runM ⟨(itM d n m k P g pk j).2.1,(itM d n m k P g pk j).2.2⟩ I t).toNat]? =some (xsM n m P g pk (λt=>(I t).toNat) t):=λt=>by
  induction t with
  | zero=>exact⟨Int.le_refl 0,hM.zero⟩
  | succ t s=>
   obtain⟨b,a⟩:=s
   obtain⟨x,row,q,a1,a2,f,c⟩:=l _ (by rw[hjl];exact(bK.1 a).1)
   rw[a]at a1
   cases a1
   obtain⟨e,r⟩:=hI t
   obtain⟨⟨u,w,y,A⟩,_⟩:=c (I t).toNat (by omega)
   show 0<=tab (itM d n m k P g pk j).2.1 (runM _ I t) (I t)/\(itM d n m k P g pk j).1[(tab (itM d n m k P g pk j).2.1 (runM _ I t) (I t)).toNat]? =_
   rw[o _ _ row (I t) u b e a2 w]
   exact⟨y,A⟩
 obtain⟨b,a⟩:=v t
 obtain⟨x,row,q,a1,a2,f,c⟩:=l _ (by rw[hjl];exact(bK.1 a).1)
 rw[a]at a1
 cases a1
 obtain⟨e,r⟩:=hI t
 obtain⟨_,B⟩:=c (I t).toNat (by omega)
 refine⟨b,a,?_⟩
 unfold letM
 rw[hm]
 show tab (itM d n m k P g pk j).2.2 (runM _ I t) (I t) * (m:Int)+I t=_
 rw[o _ _ q (I t) _ b e f B]
 omega
include hk
theorem wM (hc:∀r∈d.Pairs,(∀z∈r.Ask,z<(n:Int))/\∀z∈r.Give,z<(n:Int)){N:Nat}(A:ltr p=N){c:Clause}(k1:1<=c.Kind) (k7:c.Kind<=7){i:Nat}{π:Int->Int}(hs:Sm N d c i π):Sat c (letM p ⟨(itM d n m k P g pk j).2.1,(itM d n m k P g pk j).2.2⟩ I):=by
 have f:∀t,(I t).toNat<m:=λt=>by have:=hI t;omega
 have hx:=zw (p:=p) h h0 hm hj hjl hI
 have q:=xw h h0 f
 obtain⟨r,F,w⟩:=hs.pair
 have C:=xx h h0 f hc F
 have l:=h.dl
 rw[pa k1 k7]
 have u:∀t,mrun c (letM p ⟨(itM d n m k P g pk j).2.1,(itM d n m k P g pk j).2.2⟩ I) t=π (atP P (xsM n m P g pk (λt=>(I t).toNat) t)):=λt=>by
  induction t with
  | zero=>
   obtain⟨v,G,_⟩:=sv h h0 f 0
   have D:=h.rg.game.zero
   have e:atP P (xsM n m P g pk (λt=>(I t).toNat) 0)=0:=db (v:=⟨0,firstR d.Pairs.length⟩) (by show idx P ((0:Nat):Int)=_;rw[bS];exact D)
   rw[e,hs.zero];rfl
  | succ t E=>
   show mst c (mrun c _ t) _=_
   obtain⟨x,a,b,s,y⟩:=q t
   have B:oM d pk P (eB g.Arena (xsM n m P g pk (λt=>(I t).toNat) t)) n m k (atP P (xsM n m P g pk (λt=>(I t).toNat) t)).toNat (I t).toNat * m+(I t).toNat<(N:Int):=by
    rw[← A]
    unfold ltr
    rw[hm,hk]
    generalize oM d pk P (eB g.Arena (xsM n m P g pk (λt=>(I t).toNat) t)) n m k (atP P (xsM n m P g pk (λt=>(I t).toNat) t)).toNat (I t).toNat=o at s y
    have:=Int.mul_le_mul_of_nonneg_right (show o+1<=k by omega) (show(0:Int)<=m by omega)
    have:=f t
    rw[Int.add_mul,Int.one_mul,Int.mul_comm (k:Int)]at *
    omega
   rw[E,(hx t).2.2,x]
   exact(hs.step _ _ a (by rw[l];exact b) (Int.add_nonneg (Int.mul_nonneg s (by omega)) (by omega)) B).symm
 refine λha=>(fp λt=>?_).1 (C ((fp λt=>?_).1 ha))
 · obtain⟨_,a,b,_⟩:=q t
   rw[u]
   exact(w _ a (by rw[l];exact b)).2
 · obtain⟨_,a,b,_⟩:=q t
   rw[u]
   exact(w _ a (by rw[l];exact b)).1.symm
end
end Go.Proofs.YtleekpaohfpooaaGreat
set_option linter.unusedVariables false
set_option linter.unusedSimpArgs false
namespace Go.Proofs.YtleekpaohfpooaaGreat
open Go Go.Wk Go.Proofs
theorem qG {p:Sig}{d:Det}(hd:detOk p d=true):∀b∈d.Pairs,(∀z∈b.Ask,z<(d.Next.length:Int))/\∀z∈b.Give,z<(d.Next.length:Int):=λx hx=>by
 unfold detOk at hd
 simp only[sh]at hd
 have hp:=hd.1.2
 unfold pairsOk at hp
 rw[sh,List.all_eq_true]at hp
 have:=hp.2 x hx
 unfold pairOk at this
 rw[sh]at this
 exact⟨λz a=>((St.of this.1).rng z a).2,λz a=>((St.of this.2).rng z a).2⟩
structure Good (p:Sig) (cs:List Clause) (M:Machine):Prop where
 ok:machOk p M=true
 le:M.Next.length<=32
 sat:∀I:Nat->Int,(∀t,0<=I t/\I t<pw p.In)->∀c∈cs,Sat c (letM p M I)
inductive MadeBy (p:Sig) (cs:List Clause):Machine->Prop
 | mk {d:Det} {n m k:Nat} {A:Arena} {P:List Place} {g:Parity} {W:Int->Prop} {pk:List Int} (h1:cU p cs=some (d,true)) (S:Stq p cs d n m k A P g W pk) (hn:n<=16) (hp:d.Pairs.length<=2) (h0:wB W 0=false) {j:Nat} (hj:∀i,i<j->i<(itM d n m k P g pk i).1.length) (hjl:j=(itM d n m k P g pk j).1.length):MadeBy p cs ⟨(itM d n m k P g pk j).2.1,(itM d n m k P g pk j).2.2⟩
theorem MadeBy.good {p:Sig}{cs:List Clause}{M:Machine}(h:MadeBy p cs M) (hc:∀c∈cs,cH p c=true):Good p cs M:=by
 obtain⟨_,S,hn,hp,h0,hj,hjl⟩:=h
 rename_i d n m k A P g W pk j
 have hM:=gg S.cx h0 j hj
 have u:=pK S.cx hn hp hM.nm λx hx=>(hM.all x hx).2
 have r:=hM.nxl
 have s:=hM.oul
 have v:=(bK.1 hM.zero).1
 obtain⟨N,e,o⟩:=S.prd
 refine⟨oo (by dsimp only;omega) (by dsimp only;omega) (by dsimp only;omega) (λrow hr=>?_) (λrow hr=>?_),by dsimp only;omega,λI hI c f=>?_⟩
 · obtain⟨a,b⟩:=hM.nxr row hr
   exact⟨by rw[a,S.im],λx hx=>by have:=b x hx;dsimp only;omega⟩
 · obtain⟨a,b⟩:=hM.our row hr
   rw[S.ok]
   exact⟨by rw[a,S.im],b⟩
 · obtain⟨i,q⟩:=List.getElem?_of_mem f
   obtain⟨π,hs⟩:=o.sm e hc i c q
   obtain⟨k1,k7⟩:=jM (hc c f)
   have l:=qG S.det
   rw[S.cx.dl]at l
   exact wM S.cx h0 S.im S.ok hj hjl (λt=>by have:=hI t;rw[S.im]at this;exact this) l e k1 k7 hs
end Go.Proofs.YtleekpaohfpooaaGreat
set_option linter.unusedVariables false
set_option linter.unusedSimpArgs false
namespace Go.Proofs.YtleekpaohfpooaaGreat
open Go Go.Wk Go.Proofs
theorem tD {p:Sig}(hs:sigOk p=true){cs:List Clause}(hb:∀c∈cs,Clause.bd c) (hc:∀c∈cs,cH p c=true) (h2:cs.length<=2):∃d A n m k P g W pk,cU p cs=some (d,true)/\Stq p cs d n m k A P g W pk/\((wB W 0=true/\fE p cs=some (⟨[],[]⟩,false))\/(wB W 0=false/\∃M,fE p cs=some (M,true)/\MadeBy p cs M)):=by
 obtain⟨d,A,n,m,k,P,g,W,pk,h1,S,hn,hp,hpb,b,e,f,hW⟩:=yx hs hb hc h2
 refine⟨d,A,n,m,k,P,g,W,pk,h1,S,?_⟩
 unfold fE
 simp only[h1,b,e,f,hW,bI,zZ,cond_false]
 cases a:wB W 0 with
 | true=>exact .inl ⟨rfl,rfl⟩
 | false=>
  obtain⟨j,i,l,w1⟩:=zz hs S.det hpb S.cx S.im S.ok a λj hj=>by
   have hM:=gg S.cx a j hj
   have:=pK S.cx hn hp hM.nm λx hx=>(hM.all x hx).2
   omega
  refine .inr ⟨rfl,_,?_,⟨h1,S,hn,hp,a,i,l⟩⟩
  show(bif (b2i false !=0) then _ else _)=_
  unfold mS
  rw[show(b2i false !=0)=false from rfl,cond_false,w1];rfl
end Go.Proofs.YtleekpaohfpooaaGreat
set_option linter.unusedVariables false
set_option linter.unusedSimpArgs false
namespace Go.Proofs.YtleekpaohfpooaaGreat
open Go Go.Wk Go.Proofs
def inR9 (n m:Nat) (P:List Place) (pk:List Int) (x:Int):Int:=(atP P (pkL pk x)-n) % m
def xsR (d:Det) (n m:Nat) (P:List Place) (g:Parity) (pk:List Int) (M:Machine):Nat->Int×Int
 | 0=>(0,0)
 | t+1=>(tgt P (eB g.Arena (pkL pk (xsR d n m P g pk M t).1)) (tab d.Next (atP P (xsR d n m P g pk M t).1) (tab M.Out (xsR d n m P g pk M t).2 (inR9 n m P pk (xsR d n m P g pk M t).1) * m+inR9 n m P pk (xsR d n m P g pk M t).1)),tab M.Next (xsR d n m P g pk M t).2 (inR9 n m P pk (xsR d n m P g pk M t).1))
section
variable {p:Sig}{d:Det}{n m k:Nat}{A:Arena}{P:List Place}{g:Parity}{W:Int->Prop}{pk:List Int}(h:Cx d n m k A P g W pk) (h0:wB W 0=true) (hm:pw p.In=(m:Int)) (hk:pw p.Out=(k:Int)){M:Machine}(hM:machOk p M=true)
include h hm hk hM
theorem vw {x s:Int}{v:Place}(a:idx P x=some v) (ha:v.At<(n:Int)) (b:wB W x=true) (s0:0<=s) (s1:s<M.Next.length):
 (0<=inR9 n m P pk x/\inR9 n m P pk x<m)/\(gI g).own x=true/\(gI g).E x (pkL pk x)/\Par.Rg (Xn P.length) (wB W) true (pkL pk x)/\(gI g).own (pkL pk x)=false/\(n:Int)<=atP P (pkL pk x) /\
 ∃z:Int,tgt P (eB g.Arena (pkL pk x)) (tab d.Next (atP P x) (tab M.Out s (inR9 n m P pk x) * m+inR9 n m P pk x))=z/\(gI g).E (pkL pk x) z/\(∃u,idx P z=some u/\u.At<(n:Int))/\wB W z=true/\atP P z=tab d.Next (atP P x) (tab M.Out s (inR9 n m P pk x) * m+inR9 n m P pk x)/\0<=atP P x/\atP P x<n /\
  0<=tab M.Next s (inR9 n m P pk x)/\tab M.Next s (inR9 n m P pk x)<M.Next.length/\0<=tab M.Out s (inR9 n m P pk x)/\tab M.Out s (inR9 n m P pk x)<k:=by
 obtain⟨_,_,aa,U,V⟩:=cB hM
 have R:Xn P.length x:=⟨(c8 a).1,(c8 a).2.1⟩
 obtain⟨w,q,r,K,B,L,T,_⟩:=h.state a ha
 obtain⟨y,hy,j,D,l⟩:=h.mine R (by rw[w,b])
 obtain⟨_,i,f,e⟩:=T y ((kA L).1 D)
 have A:pkL pk x=y:=nv hy
 have t:inR9 n m P pk x=(i:Int):=by
  unfold inR9
  rw[A,e,show((n+(q * m+i):Nat):Int)-(n:Int)=((q * m+i:Nat):Int) by omega,← Int.natCast_emod,Nat.mul_comm,Nat.mul_add_mod,Nat.mod_eq_of_lt f]
 obtain⟨_,_,_,X,Y⟩:=jK U s0 s1 (Int.natCast_nonneg i) (by omega)
 obtain⟨_,_,_,F,G⟩:=jK V s0 (by omega) (Int.natCast_nonneg i) (by omega)
 rw[hk]at G
 obtain⟨o,S⟩:=cY F
 obtain⟨E,r',c,O,Q⟩:=h.mid j B f e
 obtain⟨p,H,_⟩:=ss (Q o (by omega))
 obtain⟨I,_⟩:=O _ p
 obtain⟨u,C,_,_⟩:=h.place I
 obtain⟨_,_,_,Z,J⟩:=h.cellAt (o:=o) B f (by omega)
 have N:tab d.Next (atP P x) (tab M.Out s (inR9 n m P pk x) * m+inR9 n m P pk x)=tab d.Next q ((o * m+i:Nat):Int):=by
  rw[t,S,db a,K]
  congr 1
 rw[N,A,fh c,t]
 refine⟨⟨by omega,by omega⟩,w,D,⟨j,l.trans b⟩,E,by rw[e];omega,_,rfl,(kA c).2 p,⟨u,C,?_⟩,?_,H,by rw[db a];omega,by rw[db a];omega,X,Y,F,G⟩
 · rw[← db C,H];exact J
 · rw[h.yours j (by rw[E,l,b];simp) ((kA c).2 p) I,l,b]
include h0
theorem xy:∀t,∃v,idx P (xsR d n m P g pk M t).1=some v/\v.At<(n:Int)/\wB W (xsR d n m P g pk M t).1=true/\0<=(xsR d n m P g pk M t).2/\(xsR d n m P g pk M t).2<M.Next.length
 | 0=>by
  have a:=h.rg.game.zero
  have h1:=h.n1
  have h2:=(cB hM).1
  exact⟨⟨0,firstR d.Pairs.length⟩,by show idx P ((0:Nat):Int)=_;rw[bS];exact a,by show(0:Int)<_;omega,h0,Int.le_refl 0,by show(0:Int)<_;omega⟩
 | t+1=>by
  obtain⟨v,j,k,l,o,p⟩:=xy t
  obtain⟨_,_,_,_,_,_,z,q,_,⟨u,f,i⟩,r,_,_,_,b,c,_⟩:=vw h hm hk hM j k l o p
  have e:(xsR d n m P g pk M (t+1)).1=z:=q
  rw[e]
  exact⟨u,f,i,r,b,c⟩
theorem vR (hc:∀j∈d.Pairs,(∀z∈j.Ask,z<(n:Int))/\∀z∈j.Give,z<(n:Int)){N:Nat}(w:ltd p=N){cs:List Clause}(y:PR N cs d) (C:∀c∈cs,cH p c=true):∃I:Nat->Int,(∀t,0<=I t/\I t<pw p.In)/\∃c∈cs,¬Sat c (letM p M I):=by
 have hx:=xy h h0 hm hk hM
 have b:=λt=>vw h hm hk hM (hx t).choose_spec.1 (hx t).choose_spec.2.1 (hx t).choose_spec.2.2.1 (hx t).choose_spec.2.2.2.1 (hx t).choose_spec.2.2.2.2
 obtain⟨i,j,hp,D⟩:=h.odd (q:=true) (π:=alt (λt=>(xsR d n m P g pk M t).1) λt=>pkL pk (xsR d n m P g pk M t).1) (λt=>by
  rcases oe t with ⟨s,rfl⟩ | ⟨s,rfl⟩
  · obtain⟨_,k1,U,E,_⟩:=b s
    rw[nE,jo]
    obtain⟨v,a,_,Y,_⟩:=hx s
    exact⟨⟨⟨(c8 a).1,(c8 a).2.1⟩,Y⟩,U,λ_=>rfl⟩
  · obtain⟨_,_,_,E,V,_,z,u,J,_⟩:=b s
    rw[show 2 * s+1+1=2 * (s+1) by omega,nE,jo]
    refine⟨E,?_,λe=>absurd (V.symm.trans e) (by decide)⟩
    rw[← u]at J
    exact J) (jo _ _ 0) rfl
 obtain⟨c1,c2⟩:=hc j (bQ hp)
 have hy:∀(S:List Int),(∀z∈S,z<(n:Int))->∀t,atP P (pkL pk (xsR d n m P g pk M t).1)∉S:=λS l t Q=>by
  obtain⟨_,_,_,_,_,ac,_⟩:=b t
  have:=l _ Q
  omega
 rw[tL (x:=λt=>(xsR d n m P g pk M t).1) (hy _ c1) (hy _ c2)]at D
 have A:=(bK.1 hp).1
 rw[y.len]at A
 have f:cs[i]? =some cs[i]:=bJ A
 obtain⟨π,hs⟩:=y.sm w C i _ f
 generalize cs[i]=c at f hs
 obtain⟨k1,k7⟩:=jM (C c (bQ f))
 have hI:∀t,0<=inR9 n m P pk (xsR d n m P g pk M t).1/\inR9 n m P pk (xsR d n m P g pk M t).1<pw p.In:=λt=>by
  have:=(b t).1
  omega
 refine⟨λt=>inR9 n m P pk (xsR d n m P g pk M t).1,hI,c,bQ f,λl=>D ?_⟩
 have R:∀t,runM M (λt=>inR9 n m P pk (xsR d n m P g pk M t).1) t=(xsR d n m P g pk M t).2:=λt=>by
  induction t with
  | zero=>rfl
  | succ t r=>
   show tab M.Next (runM M _ t) _=tab M.Next _ _
   rw[r]
 have B:∀t,mrun c (letM p M λt=>inR9 n m P pk (xsR d n m P g pk M t).1) t=π (atP P (xsR d n m P g pk M t).1):=λt=>by
  induction t with
  | zero=>
   have e:atP P (xsR d n m P g pk M 0).1=0:=db (v:=⟨0,firstR d.Pairs.length⟩) (by show idx P ((0:Nat):Int)=_;rw[bS];exact h.rg.game.zero)
   rw[e,hs.zero];rfl
  | succ t r=>
   obtain⟨⟨T,ab⟩,_,_,_,_,_,z,u,_,_,_,aa,K,L,_,_,F,W⟩:=b t
   have e:(xsR d n m P g pk M (t+1)).1=z:=u
   rw[e,aa]
   show mst c (mrun c _ t) (letM p M _ t)=_
   have O:tab M.Out (xsR d n m P g pk M t).2 (inR9 n m P pk (xsR d n m P g pk M t).1) * m+inR9 n m P pk (xsR d n m P g pk M t).1<(N:Int):=by
    rw[← w]
    unfold ltd
    rw[hm,hk]
    generalize tab M.Out (xsR d n m P g pk M t).2 (inR9 n m P pk (xsR d n m P g pk M t).1)=o at F W
    have:=Int.mul_le_mul_of_nonneg_right (show o+1<=k by omega) (show(0:Int)<=m by omega)
    rw[Int.add_mul,Int.one_mul,Int.mul_comm (k:Int)]at this
    omega
   rw[r]
   unfold letM
   rw[R,hm]
   exact(hs.step _ _ K (by rw[h.dl];exact L) (Int.add_nonneg (Int.mul_nonneg F (by omega)) T) O).symm
 obtain⟨ad,G,H⟩:=hs.pair
 rw[hp]at G
 cases G
 intro ha
 have hb:∀t,0<=atP P (xsR d n m P g pk M t).1/\atP P (xsR d n m P g pk M t).1<d.Next.length:=λt=>by
  obtain⟨v,a,X,_⟩:=hx t
  obtain⟨_,w1,Z,_⟩:=h.place (x:=(xsR d n m P g pk M t).1) ⟨(c8 a).1,(c8 a).2.1⟩
  rw[a]at w1
  cases w1
  rw[db a,h.dl]
  exact⟨Z,X⟩
 refine(fp λt=>?_).1 ((pa k1 k7).1 l ((fp λt=>?_).1 ha))
 · rw[B]
   exact(H _ (hb t).1 (hb t).2).2.symm
 · rw[B]
   exact(H _ (hb t).1 (hb t).2).1
end
end Go.Proofs.YtleekpaohfpooaaGreat
set_option linter.unusedVariables false
set_option linter.unusedSimpArgs false
namespace Go.Proofs.YtleekpaohfpooaaGreat
open Go Go.Wk Go.Proofs
theorem uP {x:l30Graph}{K:List Key}(h1:x.of=K.map (·.1)) (h2:x.by0=K.map (·.2)) (hl:K.length<=100000) (p q:Int):
 jf x p q=some (atK K (p,q),(addK K (p,q)).map (·.1),(addK K (p,q)).map (·.2)):=by
 have c:x.of.length=K.length:=by rw[h1,Ah]
 unfold jf
 rw[c,gU (f:=iN x p q) (λk=>((p,q):Key)==k) (λi=>((i:Int),x.of,x.by0)) (xs:=K) (λi k hk=>by
  unfold iN
  rw[bS,bS,show x.of[i]? =some k.1 from by rw[h1,List.getElem?_map,hk];rfl,show x.by0[i]? =some k.2 from by rw[h2,List.getElem?_map,hk];rfl]
  simp only[bI]
  have:(((p,q):Key)==k)=((k.1==p)&&(k.2==q)):=by
   obtain⟨a,b⟩:=k
   rw[Bool.eq_iff_iff,beq_iff_eq,sh,beq_iff_eq,beq_iff_eq,Prod.mk.injEq]
   exact⟨λh=>⟨h.1.symm,h.2.symm⟩,λh=>⟨h.1.symm,h.2.symm⟩⟩
  rw[this]
  cases k.1==p <;> cases k.2==q <;> rfl)]
 unfold atK addK loc
 rw[bI]
 cases K.findIdx? (λk=>((p,q):Key)==k) with
 | some i=>simp[aft,h1,h2]
 | none=>
  have d:x.by0.length=K.length:=by rw[h2,Ah]
  simp only[bV]
  rw[app1 (by omega) rfl,bI,app1 (by omega) rfl,bI,h1,h2]
  simp only[z5,Ah,List.length_cons,Aa,List.map_append,List.map_cons,List.map_nil]
  rw[wr' (by omega) (by omega)]
  congr 2
  omega
def nums (n:Nat):List Int:=(List.range n).map (λi:Nat=>(i:Int))
theorem qP (n:Nat):nums (n+1)=nums n++[(n:Int)]:=by simp[nums,List.range_succ]
def keyW (m:Machine) (d:Det) (ins q r j:Int):Key:=(tab m.Next q j,tab d.Next r (tab m.Out q j * ins+j))
abbrev St3:=List Key×List Int×List Int
def stepW (m:Machine) (d:Det) (ins q r:Int) (s:St3) (j:Int):St3:=(addK s.1 (keyW m d ins q r j),s.2.1++[atK s.1 (keyW m d ins q r j)],s.2.2++[tab m.Out q j * ins+j])
def rowW (m:Machine) (d:Det) (ins q r:Int) (K:List Key) (j:Nat):St3:=(nums j).foldl (stepW m d ins q r) (K,[],[])
theorem mN (m:Machine) (d:Det) (ins q r:Int) (K:List Key) (j:Nat):rowW m d ins q r K (j+1)=stepW m d ins q r (rowW m d ins q r K j) j:=by
 unfold rowW
 rw[qP,List.foldl_append];rfl
def Kin (a b:Int) (K:List Key):Prop:=∀k∈K,0<=k.1/\k.1<a/\0<=k.2/\k.2<b
section
variable {p:Sig}{m:Machine}{d:Det}(hm:machOk p m=true) (hd:detOk p d=true)
include hm hd
theorem rF {q r j:Int}(g:0<=q) (y:q<m.Next.length) (z:0<=r) (A:r<d.Next.length) (f:0<=j) (e:j<pw p.In):
 ∃a b c,idx m.Next q=some a/\idx a j=some (keyW m d (pw p.In) q r j).1/\idx m.Out q=some b/\idx b j=some (tab m.Out q j)/\idx d.Next r=some c/\idx c (tab m.Out q j * pw p.In+j)=some (keyW m d (pw p.In) q r j).2 /\
  0<=tab m.Out q j/\tab m.Out q j<4/\0<=(keyW m d (pw p.In) q r j).1/\(keyW m d (pw p.In) q r j).1<m.Next.length/\0<=(keyW m d (pw p.In) q r j).2/\(keyW m d (pw p.In) q r j).2<d.Next.length:=by
 obtain⟨_,_,C,v,w⟩:=cB hm
 obtain⟨_,_,_,x⟩:=dc hd
 obtain⟨a,a1,a2,i,k⟩:=jK v g y f e
 obtain⟨b,l,n,o,B⟩:=jK w g (by omega) f e
 have D:=gk p.Out
 have u:tab m.Out q j * pw p.In+j<ltd p:=by
  unfold ltd
  have hp:pw p.In=2\/pw p.In=4:=by unfold pw;split <;> simp
  rcases hp with hp | hp <;> rw[hp]at e ⊢ <;> omega
 have h0:0<=tab m.Out q j * pw p.In+j:=by
  have hp:pw p.In=2\/pw p.In=4:=by unfold pw;split <;> simp
  rcases hp with hp | hp <;> rw[hp] <;> omega
 obtain⟨c,c1,c2,s,t⟩:=jK x z A h0 u
 exact⟨a,b,c,a1,a2,l,n,c1,c2,o,by omega,i,k,s,t⟩
theorem o8 {q r:Int}(a:0<=q) (b:q<m.Next.length) (c:0<=r) (e:r<d.Next.length){K:List Key}(hK:Kin m.Next.length d.Next.length K):∀(j:Nat),(j:Int)<=pw p.In ->
 Kin m.Next.length d.Next.length (rowW m d (pw p.In) q r K j).1/\K.length<=(rowW m d (pw p.In) q r K j).1.length/\(rowW m d (pw p.In) q r K j).1.length<=K.length+j/\(rowW m d (pw p.In) q r K j).2.1.length=j/\(rowW m d (pw p.In) q r K j).2.2.length=j /\
  (∀(i:Nat) v,K[i]? =some v->(rowW m d (pw p.In) q r K j).1[i]? =some v)
 | 0,_=>⟨hK,Nat.le_refl _,by simp[rowW,nums],rfl,rfl,λ_ _ h=>h⟩
 | j+1,hj=>by
  obtain⟨h1,h2,u,f,g,l⟩:=o8 a b c e hK j (by omega)
  obtain⟨_,_,_,_,_,_,_,_,_,_,_,k1,o,s,t⟩:=rF hm hd a b c e (j:=(j:Int)) (by omega) (by omega)
  rw[mN]
  generalize rowW m d (pw p.In) q r K j=F at *
  have hl:=sw F.1 (keyW m d (pw p.In) q r j)
  refine⟨λk hk=>?_,?_,?_,?_,?_,λi v n=>pc (l i v n)⟩
  · rcases sx hk with hk | rfl
    · exact h1 k hk
    · exact⟨k1,o,s,t⟩
  · show K.length<=(addK F.1 _).length
    omega
  · show(addK F.1 _).length<=_
    omega
  · show(F.2.1++[_]).length=_
    simp[f]
  · show(F.2.2++[_]).length=_
    simp[g]
end
end Go.Proofs.YtleekpaohfpooaaGreat
