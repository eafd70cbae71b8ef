/- A rival that wins beats all clauses, on both sides. -/
import Derived.Test.YtfombamjdkihnaaGreatL4EI
import Derived.Test.YtfombamjdkihnaaGreatL0EI
import Derived.Test.YtfombamjdkihnaaGreatL3EI
import Derived.Test.YtfombamjdkihnaaGreatL2EI
set_option linter.unusedVariables false
set_option linter.unusedSimpArgs false
open Bool renaming not_true → E5
open Int renaming ofNat → FC, tmod_eq_emod_of_nonneg → Gg, toNat_natCast → Fb
open Go.IntKind renaming bits → E1, u64 → E3, wrap → ET
open List renaming all_eq_true → Fc, getD_eq_getElem?_getD → o5, getElem?_append_left → Es, getElem?_eq_getElem → o7, getElem?_eq_some_iff → DX, getElem?_of_mem → Ff, length_append → DZ, length_map → Fh, map_append → EC, mem_append → D2, mem_cons → D3, mem_map → EE, mem_of_getElem? → EF, mem_singleton → D4, range → FK, take_length_add_append → Gh
open Option renaming bind → EO, bind_some → Fz
namespace Go.Proofs.YtfombamjdkihnaaGreat
open Go Go.Wk Go.Proofs
abbrev BT:=List Key×VV×Int×List (Key×Int)
abbrev BS:=VV×VV×Int
def RowsEq (A B:VV):Prop:=A.length=B.length/\∀(c:Nat) a b,A[c]? =some a->B[c]? =some b->SetR a b
theorem RowsEq.add {A B:VV}(h:RowsEq A B){a b:VI}(j:SetR a b):RowsEq (A++[a]) (B++[b]):=by
 refine⟨by simp[h.1],λe x k c d=>?_⟩
 by_cases g:e<A.length
 .rw[Es g]at c
  rw[Es (by have:=h.1;omega)]at d
  exact h.2 e x k c d
 .have f:=(DX.1 c).1
  rw[DZ]at f
  simp only[List.length_cons,List.length_nil]at f
  have i:e=A.length:=by omega
  subst i
  simp at c
  rw[h.1]at d
  simp at d
  rw[← c,← d]
  exact j
structure InvB (r:Rival) (d:Det) (ins:Int) (k:Nat) (s:BS) (t:BT):Prop where
 met:s.1=t.1.map toR
 ii:s.2.2=t.2.2.1
 kin:KinB r d t.1
 i0:0<=t.2.2.1
 i1:t.2.2.1<=t.1.length
 le:t.1.length<=256
 ix:t.2.2.2=ixm 0 t.1
 pr:Prod (kyB r d ins) k t.1 t.2.2.1.toNat t.2.1
 rows:RowsEq s.2.1 t.2.1
section
variable {p:Sig}{r:Rival}{d:Det}(hs:sigOk p=true) (hr:rivalOk p r=true) (hd:detOk p d=true){k:Nat}(hk:pw p.Out=(k:Int))
include hs hr hd hk
theorem yu (L:∀K i R,Prod (kyB r d (pw p.In)) k K i R->K.length<=32):∃c a,bQ (gQ p r (d,true)) (2 ^ 64) ([[0,0]],[],0)=some (.inr c)/\bQ (gJ p r (d,true)) (2 ^ 64) ([(0,0)],[],0,ixm 0 [(0,0)])=some (.inr a)/\InvB r d (pw p.In) k c a/\a.2.2.1=a.1.length:=by
 obtain⟨ak,al,am,an,U⟩:=fa hr
 obtain⟨Z,aa,_,_⟩:=dx hd
 have aj:=eu p.Out
 obtain⟨T,a,C,D,o⟩:=ng (f:=gQ p r (d,true)) (g:=gJ p r (d,true)) (λc a=>InvB r d (pw p.In) k c a) (λc=>300-c.2.2.toNat) (λ_ _=>False) (λc a=>InvB r d (pw p.In) k c a/\a.2.2.1=a.1.length) (λc a e=>by
  obtain⟨ai,s,q⟩:=c
  obtain⟨K,A,af,ag⟩:=a
  have x:=e.met
  have y:=e.ii
  have z:=e.ix
  have m:=e.kin
  have w:=e.i0
  have S:=e.i1
  have O:=e.le
  have n:=e.pr
  have hR:=e.rows
  dsimp only at x y z m w S O n hR
  subst x y z
  unfold gQ gJ
  dsimp only
  rw[Fh]
  by_cases t:q<(K.length:Int)
  .obtain⟨i,rfl⟩:=dy w
   obtain⟨l,j⟩:∃l,K[i]? =some l:=⟨_,o7 (by omega)⟩
   obtain⟨X,ao,ap,aq⟩:=m _ (EF j)
   obtain⟨B,u,P⟩:=eB (xs:=r.Next) X (by omega)
   have Q:B.length=k:=by have:=(U B P).1;omega
   obtain⟨R,H,I⟩:=Dv hs hr hd hk (by omega) m j (M:=K.map toR) (N:=s)
   have E:=CP hs hr hd hk (by omega) m (EF j) u
   have G:=Ci hr hd hk m (EF j) k (Nat.le_refl _)
   have V:=jJ (kyB r d (pw p.In) l) K k
   rw[Fb]at n
   have v:=n.step j
   generalize rowK (kyB r d (pw p.In) l) K k=F at *
   have ad:=n.rl
   have ae:=hR.1
   rw[decide_eq_true t,cond_true,cond_true,H,Fz,bK]
   rw[bH,j,Fz,Fz,u,Fz,Q,E,Fz,bK]
   dsimp only
   rw[Fh]
   have ab:=L _ _ _ v
   rw[decide_eq_false (by omega),cond_false,cond_false,app1 (by omega) rfl,Fz,app1 (by omega) rfl,Fz,wr' (by omega) (by omega)]
   have ac:=(DX.1 (V.pre i l j)).1
   refine⟨.inr (.inr (F.1.map toR,s++[R],(i:Int)+1)),.inr (.inr (F.1,A++[F.2],(i:Int)+1,ixm 0 F.1)),rfl,rfl,⟨rfl,rfl,G,by dsimp only;omega,by dsimp only;omega,by dsimp only;omega,rfl,?_,hR.add I⟩,?_⟩
   .dsimp only
    rw[show((i:Int)+1).toNat=i+1 from by omega]
    exact v
   .dsimp only;omega
  .rw[decide_eq_false t,cond_false,cond_false]
   exact⟨.inr (.inl (K.map toR,s,q)),.inr (.inl (K,A,q,ixm 0 K)),rfl,rfl,e,by dsimp only;omega⟩) (2 ^ 64) (2 ^ 64) ([[0,0]],[],0) ([(0,0)],[],0,ixm 0 [(0,0)]) (by show 300-0<_;omega) (by show 300-0<_;omega) ⟨rfl,rfl,λl j=>by
    rw[D4.1 j]
    exact⟨by simp,by show(0:Int)<_;omega,by simp,by show(0:Int)<_;omega⟩,by simp,by simp,by simp,rfl,Prod.init _ _,⟨rfl,λah Y b h=>by simp at h⟩⟩
 match T,a,o with
 |.inr c,.inr W,o=>exact⟨c,W,C,D,o⟩
end
theorem yM (K:List Key) (S:VI):∀j,plK (λa=>bif false then a.2 else a.1) (K.map sw) S j=plK (·.2) K S j
 |0=>rfl
 |j+1=>by
  have b:∀(part:Key->Int) (K:List Key),plK part K S (j+1)=plK part K S j++(match K[j]? with | some a=>if part a∈S then[(j:Int)] else[] | none=>[]):=λ_ _=>rfl
  rw[b,b,yM K S j,List.getElem?_map]
  cases K[j]? <;> rfl
theorem AM {K:List Key}(hl:K.length<=300){nI:VV}{ii:Int}{ix:List (Key×Int)}{d:Det}(hd:d.Pairs.length<=4):cntM (gL (d,true) (K,nI,ii,ix)) d.Pairs.length 0 []=some (.inr (d.Pairs.map (plP (·.2) K))):=by
 obtain⟨a,k,l⟩:=bR (f:=gL (d,true) (K,nI,ii,ix)) (λb a=>a=(d.Pairs.take b).map (plP (·.2) K)) d.Pairs.length (s:=[]) (by simp) (λb a n hs=>by
  subst hs
  have e:d.Pairs[b]? =some d.Pairs[b]:=o7 n
  generalize d.Pairs[b]=p at e
  obtain⟨r,o,q⟩:=bR (f:=jy (K,nI,ii,ix) p) (λi a=>a=(plK (·.2) K p.Ask i,plK (·.2) K p.Give i)) K.length (s:=([],[])) rfl (λi a m hs=>by
   subst hs
   have c:K[i]? =some K[i]:=o7 m
   generalize K[i]=v at c
   have g:=mX (part:=(·.2)) (S:=p.Ask) c (by omega)
   have j:=mX (part:=(·.2)) (S:=p.Give) c (by omega)
   unfold jy
   dsimp only at g j ⊢
   rw[bH,c,Fz,conI,Fz,g,Fz,conI,Fz,j,Fz]
   exact⟨_,rfl,rfl⟩)
  unfold gL
  dsimp only
  rw[bH,e,Fz,o,Fz,bK,q]
  dsimp only
  rw[app1 (by rw[Fh,List.length_take];omega) rfl,Fz]
  exact⟨_,rfl,by rw[List.take_add_one,e,EC];rfl⟩)
 rw[k,l,List.take_length]
theorem zP {n:Nat}(h:n<=256):nL (n:Int)=some ((FK n).map FC):=by
 unfold nL
 obtain⟨j,k,c⟩:=cE (f:=jn (n:Int)) (λb (a:VI×Int)=>b<=n/\a.2=(b:Int)/\a.1=(FK b).map FC) (λ_=>False) (λa=>a.1=(FK n).map FC) n (λb a ⟨l,e,d⟩=>by
  obtain⟨m,i⟩:=a
  dsimp only at e d
  subst e
  unfold jn
  dsimp only
  by_cases g:b<n
  .rw[decide_eq_true (show(b:Int)<(n:Int) by omega),cond_true,Fz,decide_eq_true (show(n:Int)<=256 by omega),cond_true,app1 (by rw[d];simp;omega) rfl,Fz]
   refine⟨_,rfl,g,by omega,?_,?_⟩
   .dsimp only;rw[wr' (by omega) (by omega)];omega
   .dsimp only;rw[d,List.range_succ,EC];rfl
  .have:b=n:=by omega
   subst this
   rw[decide_eq_false (Int.lt_irrefl _),cond_false,Fz,cond_false]
   exact⟨_,rfl,d⟩) (2 ^ 64) 0 ([],0) (by omega) ⟨by omega,rfl,rfl⟩ (by omega)
 match j,c with
 |.inr a,c=>
  rw[k]
  have c:a.1=(FK n).map FC:=c
  rw[← c];rfl
theorem zR {n:Nat}(h:n<=256):pl (n:Int)=some ((FK n).map FC):=by
 unfold pl
 rw[decide_eq_false (show ¬(n:Int)<0 by omega),cond_false,Fz,decide_eq_false (show ¬(256:Int)<(n:Int) by omega),cond_false,show Int.toNat ((n:Int)-0)=n from by omega]
 obtain⟨a,c,d⟩:=bR (f:=ji) (λb (a:VI)=>a=(FK b).map FC) n (s:=[]) rfl (λb a e hs=>by
  subst hs
  unfold ji
  rw[app1 (by rw[Fh,List.length_range];omega) rfl,Fz]
  exact⟨_,rfl,by rw[List.range_succ,EC];rfl⟩)
 have:rng (n:Int)=some ():=by
  unfold rng
  rw[if_pos (by omega)]
 rw[this,Fz,c,d];rfl
theorem AA (n:Nat):St n ((FK n).map FC):=⟨by
 unfold Asc
 rw[List.pairwise_map]
 exact List.pairwise_lt_range.imp λh=>by simpa using h,λx b=>by
 obtain⟨i,a,rfl⟩:=EE.1 b
 have:=List.mem_range.1 a
 simp;omega⟩
theorem Wy.edge {sc a:Int->VI}(h:∀v u,u∈sc v->u∈a v){D:Int->Prop}{v u:Int}(w:Wy sc D v u):Wy a D v u:=by
 induction w with
 |one k=>exact .one k
 |cons k b _ c=>exact .cons k (h _ _ b) c
theorem FairP.same {N N':VV}(h:∀d a,a∈rowI' N d->a∈rowI' N' d){i:VP}{S:VI}(m:FairP N i S):FairP N' i S:=by
 obtain⟨C,l,f⟩:=m
 have g:∀d a,a∈scP N (λe=>e∈C) d->a∈scP N' (λe=>e∈C) d:=λd a n=>by
  obtain⟨j,b,c⟩:=iO.1 n
  exact iO.2 ⟨j,b,h d a c⟩
 exact⟨C,l,f.ne,λx o r p=>by
  obtain⟨e,k,q⟩:=f.con x o r p
  exact⟨e,g _ _ k,q.edge g⟩,f.ok⟩
theorem RowsEq.rowI {A B:VV}(h:RowsEq A B) (v u:Int):u∈rowI' A v↔u∈rowI' B v:=by
 unfold rowI'
 cases d:idx A v with
 |none=>
  cases a:idx B v with
  |none=>exact Iff.rfl
  |some b=>
   obtain⟨e,f⟩:=cr a
   obtain⟨x,c,_⟩:=eB (xs:=A) e (by rw[h.1];exact f)
   rw[d]at c;cases c
 |some g=>
  obtain⟨e,f⟩:=cr d
  cases a:idx B v with
  |none=>
   obtain⟨x,c,_⟩:=eB (xs:=B) e (by rw[← h.1];exact f)
   rw[a]at c;cases c
  |some b=>
   rw[cB e]at d a
   exact(h.2 _ _ _ d a).2 u
theorem yt {r:Rival}{d:Det}{p:Sig}{k:Nat}{s:BS}{t:BT}(hd:detOk p d=true) (R:k<=4) (h:InvB r d (pw p.In) k s t) (hl:t.2.2.1=t.1.length) (v:¬FairP t.2.1 (d.Pairs.map (plP (·.2) t.1)) ((FK t.1.length).map FC)):
 dC (2 ^ 64) s.2.1 (d.Pairs.map (plP (·.2) t.1)) ((FK t.1.length).map FC)=some false/\dZ (2 ^ 64) t.2.1 (d.Pairs.map (plP (·.2) t.1)) ((FK t.1.length).map FC)=some false:=by
 have f:=h.pr
 rw[hl,Fb]at f
 have hR:=h.rows
 have u:=h.le
 obtain⟨_,_,Q,_⟩:=dx hd
 have n:t.2.1.length=t.1.length:=f.rl
 have I:s.2.1.length=t.1.length:=by rw[hR.1];exact n
 have B:∀c r,idx t.2.1 c=some r->r.length<=10000/\∀a∈r,0<=a/\a<t.1.length:=λc r hr=>by
  obtain⟨e,_⟩:=cr hr
  rw[cB e]at hr
  obtain⟨U,a,V,L⟩:=f.row _ r hr
  refine⟨by omega,λx j=>?_⟩
  obtain⟨i,q⟩:=Ff j
  have T:=(DX.1 q).1
  obtain⟨O,C,W,P⟩:=L i (by omega)
  rw[q]at C
  cases C
  have:=(DX.1 P).1
  omega
 have M:∀c r,idx s.2.1 c=some r->r.length<=10000/\∀a∈r,0<=a/\a<t.1.length:=λc r hr=>by
  obtain⟨e,N⟩:=cr hr
  obtain⟨b,hb,_⟩:=eB (xs:=t.2.1) e (by rw[← hR.1];exact N)
  have o:=hb
  have y:=hr
  rw[cB e]at o y
  have A:=hR.2 _ _ _ y o
  have z:∀a∈r,0<=a/\a<t.1.length:=λa K=>(B c b hb).2 a ((A.2 a).1 K)
  have:=(show St t.1.length r from⟨A.1,z⟩).len
  exact⟨by omega,z⟩
 have w:∀x∈d.Pairs.map (plP (·.2) t.1),St t.1.length x.Ask/\St t.1.length x.Give:=λx j=>by
  obtain⟨O,_,rfl⟩:=EE.1 j
  exact⟨vS _ _ _ _,vS _ _ _ _⟩
 have g:=AA t.1.length
 have S:=g.len
 obtain⟨b,l,_,E⟩:=uS I u M w (by rw[Fh];omega) _ _ (Nat.le_refl _) g (2 ^ 64) (2 ^ 64) (by omega) (by omega)
 obtain⟨D,_,m,F⟩:=uS n u B w (by rw[Fh];omega) _ _ (Nat.le_refl _) g (2 ^ 64) (2 ^ 64) (by omega) (by omega)
 have G:b=false:=Bool.eq_false_iff.2 λhb=>v ((E.1 hb).same λc a=>(hR.rowI c a).1)
 have H:D=false:=Bool.eq_false_iff.2 λhb=>v (F.1 hb)
 rw[G]at l
 rw[H]at m
 exact⟨l,m⟩
def stB (r:Rival) (d:Det) (ins:Int) (v:Key) (xs:VI):Key:=xs.foldl (kyB r d ins) v
theorem ue {r:Rival}{d:Det}{ins:Int}{k:Nat}{K:List Key}{i:Nat}{R:VV}(h:Prod (kyB r d ins) k K i R):∀(q b:Nat) u,q<b->K[q]? =some u->∃c:VI,(∀x∈c,0<=x/\x<(k:Int))/\stB r d ins (0,0) c=u
 |q,0,u,hb,_=>absurd hb (Nat.not_lt_zero q)
 |q,b+1,u,hb,hu=>by
  rcases h.src q u hu with rfl|⟨l,x,m,o,_,g,p,rfl⟩
  .rw[h.zero]at hu
   exact⟨[],λx j=>(by cases j),Option.some.inj hu⟩
  .obtain⟨c,e,f⟩:=ue h l b m (by omega) g
   refine⟨c++[(x:Int)],λn a=>?_,?_⟩
   .rcases D2.1 a with a|a
    .exact e n a
    .rw[D4.1 a];omega
   .unfold stB at *
    rw[List.foldl_append,f];rfl
section
variable {p:Sig}{r:Rival}{d:Det}{k:Nat}{O:Nat->Int}
theorem wL:∀b a,stB r d (pw p.In) (runR r O a,runD d (letR p r O) a) (seg O a b)=(runR r O (a+b),runD d (letR p r O) (a+b))
 |0,_=>rfl
 |b+1,a=>by
  rw[show a+(b+1)=a+1+b by omega]
  exact wL b (a+1)
end
section
variable {p:Sig}{cs:VC}{d:Det}{r:Rival}(hR:Riv p cs d r){k:Nat}(hk:pw p.Out=(k:Int)){K:List Key}{i:Nat}{R:VV}(h:Prod (kyB r d (pw p.In)) k K i R)
include hR hk h
theorem A7:K.length<=32:=by
 have z:=eu p.Out
 obtain⟨o,q⟩:=hR.at_
 have j:∀b∈K,b.2=o b.1/\0<=b.1/\b.1<r.In.length:=λb g=>by
  obtain⟨l,v⟩:=Ff g
  obtain⟨c,m,n⟩:=ue h l (l+1) b (by omega) v
  have k:∀e,0<=c.getD e 0/\c.getD e 0<pw p.Out:=λe=>by
   rw[o5]
   cases f:c[e]? with
   |none=>rw[Option.getD_none];omega
   |some x=>have:=m x (EF f);rw[Option.getD_some];omega
  have a:=wL (p:=p) (r:=r) (d:=d) (O:=λe=>c.getD e 0) c.length 0
  rw[← sY (xs:=c) (λi x s=>by rw[o5,Nat.zero_add,s];rfl)]at a
  have a:stB r d (pw p.In) (0,0) c=_:=a
  rw[n]at a
  rw[a]
  exact⟨q _ k _,qT hR.ok k _⟩
 have t:(K.map (·.1)).Nodup:=by
  unfold List.Nodup
  rw[List.pairwise_map]
  refine List.Pairwise.imp_of_mem (λ{x y} f w u a=>u ?_) h.nod
  exact Prod.ext a (by rw[(j x f).1,(j y w).1,a])
 have hl:=cZ r.In.length _ t λx f=>by
  obtain⟨b,g,rfl⟩:=EE.1 f
  exact(j b g).2
 rw[Fh]at hl
 have:=hR.le
 omega
omit hR hk in
theorem Ak {v u:Int}(a:u∈rowI' R v) (f:0<=v):∃x:Nat,x<k/\keyAt K u=kyB r d (pw p.In) (keyAt K v) x:=by
 unfold rowI' at a
 cases b:idx R v with
 |none=>rw[b]at a;cases a
 |some j=>
  rw[b,Option.getD_some]at a
  rw[cB f]at b
  obtain⟨n,o,g,i⟩:=h.row _ j b
  obtain⟨x,c⟩:=Ff a
  have m:=(DX.1 c).1
  obtain⟨q,e,s,l⟩:=i x (by omega)
  rw[c]at e
  cases e
  refine⟨x,by omega,?_⟩
  unfold keyAt
  rw[l,g];rfl
end
theorem wK {r:Rival}{d:Det}{ins:Int}{v:Key}{xs ys:VI}:stB r d ins v (xs++ys)=stB r d ins (stB r d ins v xs) ys:=List.foldl_append ..
def OutW (r:Rival) (d:Det) (ins:Int) (k:Nat) (K:List Key) (C:VI) (a b:Int) (xs:VI):Prop:=(∀x∈xs,0<=x/\x<(k:Int))/\stB r d ins (keyAt K a) xs=keyAt K b/\∀e,e<=xs.length->∃c∈C,stB r d ins (keyAt K a) (xs.take e)=keyAt K c
theorem OutW.append {r:Rival}{d:Det}{ins:Int}{k:Nat}{K:List Key}{C:VI}{a b c:Int}{xs ys:VI}(e:OutW r d ins k K C a b xs) (g:OutW r d ins k K C b c ys):OutW r d ins k K C a c (xs++ys):=by
 refine⟨λx l=>(D2.1 l).elim (e.1 x) (g.1 x),by rw[wK,e.2.1,g.2.1],λf j=>?_⟩
 rw[DZ]at j
 by_cases i:f<=xs.length
 .rw[List.take_append_of_le_length i];exact e.2.2 f i
 .rw[show f=xs.length+(f-xs.length) by omega,Gh,wK,e.2.1]
  exact g.2.2 _ (by omega)
section
variable {p:Sig}{r:Rival}{d:Det}{k:Nat}{K:List Key}{i:Nat}{R:VV}(h:Prod (kyB r d (pw p.In)) k K i R){C:VI}(hC:∀c∈C,0<=c)
include h hC
theorem zu {a y:Int}(i:y∈scP R (λe=>e∈C) a):∃x:Int,OutW r d (pw p.In) k K C a y [x]:=by
 obtain⟨b,f,g⟩:=iO.1 i
 obtain⟨x,n,c⟩:=Ak h g (hC _ b)
 refine⟨x,λe l=>by rw[D4.1 l];omega,c.symm,λm j=>?_⟩
 match m,j with
 |0,_=>exact⟨a,b,rfl⟩
 |1,_=>exact⟨y,f,c.symm⟩
theorem DC {a b:Int}(w:Wy (scP R λj=>j∈C) noV a b):a∈C->∃f,OutW r d (pw p.In) k K C a b f:=by
 induction w with
 |one _=>exact λha=>⟨[],λx c=>(by cases c),rfl,λm l=>⟨_,ha,by rw[List.take_nil];rfl⟩⟩
 |cons _ e _ i=>
  intro ha
  obtain⟨x,c⟩:=zu h hC e
  obtain⟨f,g⟩:=i (iO.1 e).2.1
  exact⟨_,c.append g⟩
theorem vB {a b:Int}(f:Far2 (scP R λl=>l∈C) a b):∃c,0<c.length/\OutW r d (pw p.In) k K C a b c:=by
 obtain⟨m,e,j⟩:=f
 obtain⟨x,g⟩:=zu h hC e
 obtain⟨c,i⟩:=DC h hC j (iO.1 e).2.1
 exact⟨_,by simp,g.append i⟩
theorem xw (i:∀x∈C,∀v∈C,Far2 (scP R λf=>f∈C) x v){c0:Int}(b:c0∈C):∀C':VI,(∀c∈C',c∈C)->∃a,0<a.length/\OutW r d (pw p.In) k K C c0 c0 a/\∀c∈C',∃j,j<a.length/\stB r d (pw p.In) (keyAt K c0) (a.take j)=keyAt K c
 | [],_=>by
  obtain⟨a,o,m⟩:=vB h hC (i c0 b c0 b)
  exact⟨a,o,m,λc g=>by cases g⟩
 |c::C',hs=>by
  obtain⟨a,o,m,s⟩:=xw i b C' λf e=>hs f (List.mem_cons_of_mem _ e)
  have g:=hs c (List.mem_cons_self ..)
  obtain⟨l,w,q⟩:=vB h hC (i c0 b c g)
  obtain⟨n,y,t⟩:=vB h hC (i c g c0 b)
  have hd:=q.append t
  refine⟨l++n++a,by rw[DZ];omega,hd.append m,λf e=>?_⟩
  rcases D3.1 e with rfl|e
  .refine⟨l.length,by rw[DZ,DZ];omega,?_⟩
   rw[List.append_assoc,List.take_left];exact q.2.1
  .obtain⟨j,z,u⟩:=s f e
   refine⟨(l++n).length+j,by rw[@List.length_append _ (l++n)];omega,?_⟩
   rw[Gh,wK,hd.2.1,u]
end
theorem B4 {p:Sig}{cs:VC}{d:Det}{r:Rival}(hR:Riv p cs d r) (ai:∀c∈cs,cz p c=true){k:Nat}(hk:pw p.Out=(k:Int)){K:List Key}{i:Nat}{R:VV}(h:Prod (kyB r d (pw p.In)) k K i R):¬FairP R (d.Pairs.map (plP (·.2) K)) ((FK K.length).map FC):=by
 rintro⟨C,ab,w⟩
 have hC:∀c∈C,0<=c/\c<K.length:=λc m=>(AA K.length).rng c (ab c m)
 obtain⟨o,v⟩:=List.exists_mem_of_ne_nil C w.ne
 obtain⟨b,q,s,Y⟩:=xw h (λc m=>(hC c m).1) w.con v C λ_ h=>h
 obtain⟨a,Z,aa⟩:=ue h _ _ _ (Nat.lt_succ_self _) (pu (hC o v).1 (hC o v).2)
 obtain⟨e,U⟩:∃e:Word,e=⟨a,b⟩:=⟨_,rfl⟩
 have E:e.Stem=a:=by rw[U]
 have D:e.Loop=b:=by rw[U]
 have z:0<e.Loop.length:=by rw[D];exact q
 have S:∀g,0<=ltW e g/\ltW e g<pw p.Out:=λg=>by
  rw[hk]
  rcases D2.1 (sM z g) with h|h
  .exact Z _ (E ▸ h)
  .exact s.1 _ (D ▸ h)
 have B:=λak g=>wL (p:=p) (r:=r) (d:=d) (O:=ltW e) ak g
 have j:=B a.length 0
 rw[← sY (X:=ltW e) (xs:=a) (λi x n=>by rw[Nat.zero_add];exact oK z (by rw[E,Es (DX.1 n).1];exact n)),Nat.zero_add]at j
 have j:stB r d (pw p.In) (0,0) a=_:=j
 rw[aa]at j
 have A:=λf=>xx z (w:=e) f
 rw[E,D]at A
 have ag:∀f,keyAt K o=(runR r (ltW e) (a.length+f * b.length),runD d (letR p r (ltW e)) (a.length+f * b.length)):=λf=>by
  induction f with
  |zero=>rw[Nat.zero_mul];exact j
  |succ f aj=>
   rw[Nat.add_mul,Nat.one_mul,← Nat.add_assoc,← B,← aj,← A]
   exact s.2.1.symm
 have T:∀f i,i<=b.length->stB r d (pw p.In) (keyAt K o) (b.take i)=(runR r (ltW e) (a.length+f * b.length+i),runD d (letR p r (ltW e)) (a.length+f * b.length+i)):=λf i n=>by
  rw[← B,← ag]
  congr 1
  have:=ig (ltW e) i (b.length-i) (a.length+f * b.length)
  rw[show i+(b.length-i)=b.length by omega,← A]at this
  exact(congrArg (List.take i) this).symm.trans (List.take_left' (g9 _ _ _))
 obtain⟨c,m,ah⟩:=hR.sat _ S
 obtain⟨ap,n⟩:=Ff m
 obtain⟨N,ae,af⟩:=hR.prd
 obtain⟨F,al,am⟩:=zL hR.det ae af ai (sL hR.ok S) n
 refine ah (am.2 λha N=>?_)
 have hb:=w.ok _ (EE.2 ⟨F,EF al,rfl⟩)
 obtain⟨g,ar,V⟩:=ha a.length
 have Q:=Nat.mod_add_div (g-a.length) b.length
 have ad:=Nat.mod_lt (g-a.length) q
 generalize(g-a.length) % b.length=u at Q ad
 generalize(g-a.length) / b.length=f at Q
 obtain⟨G,H,ao⟩:=s.2.2 u (by omega)
 have I:=T f u (by omega)
 rw[show a.length+f * b.length+u=g by rw[Nat.mul_comm];omega,ao]at I
 have M:=congrArg Prod.snd I
 dsimp only at M
 rw[← M]at V
 have y:∃l∈C,l∈(plP (·.2) K F).Give:=Classical.byContradiction λy=>hb ⟨⟨G,H,(rK (hC G H).1 (hC G H).2).2 V⟩,y⟩
 obtain⟨l,t,ac⟩:=y
 obtain⟨W,au,an⟩:=Y l t
 have L:=T N W (by omega)
 rw[an]at L
 have aq:N * 1<=N * b.length:=Nat.mul_le_mul_left _ q
 refine⟨a.length+N * b.length+W,by omega,?_⟩
 show runD d (letR p r (ltW e)) _∈F.Give
 have P:=congrArg Prod.snd L
 dsimp only at P
 rw[← P]
 exact(rK (hC l t).1 (hC l t).2).1 ac
theorem yv {p:Sig}(hs:sigOk p=true){cs:VC}{d:Det}{r:Rival}(hR:Riv p cs d r) (u:∀c∈cs,cz p c=true):nM p r cs=some true/\nj p r cs=some true:=by
 have E:=eu p.Out
 have hr:=hR.ok
 have hd:=hR.det
 obtain⟨k,hk⟩:=dy (z:=pw p.Out) (by omega)
 obtain⟨A,a,B,C,b,j⟩:=yu hs hr hd hk λK i R e=>A7 hR hk e
 have s:mset kwI2 ([]:List (Key×Int)) ((0,0):Key) 0=some (ixm 0 [(0,0)]):=by decide
 obtain⟨_,_,g,_⟩:=dx hd
 have e:=b.pr
 obtain⟨n,o⟩:=yt hd (by omega) b j (B4 hR u hk e)
 have l:=b.le
 have f:=uo (K:=a.1.map sw) (by rw[Fh];omega) d.Pairs g false
 have v:d.Pairs.map (plP (λm=>bif false then m.2 else m.1) (a.1.map sw))=d.Pairs.map (plP (·.2) a.1):=List.map_congr_left λx _=>by
  unfold plP
  rw[Fh,yM,yM]
 rw[v,← zr,← b.met]at f
 rw[j,Fb]at e
 have t:=e.rl
 have w:=AM (K:=a.1) (nI:=a.2.1) (ii:=a.2.2.1) (ix:=a.2.2.2) (d:=d) (by omega) g
 have q:b01 false=0:=rfl
 rw[q]at f
 have y:A.1.length=a.1.length:=by rw[b.met,Fh]
 have D:=hR.le
 constructor
 .unfold nM
  rw[hR.s,wc p r (by omega),hs,hr]
  simp only[E5,cond_false,Fz,Bool.true_and]
  rw[B,Fz,bK,f,Fz,y,zP l,Fz,n];rfl
 .unfold nj
  rw[jk,Fz,hs,nt p r hs,hr,hR.i]
  simp only[E5,cond_false,Fz,s]
  rw[C,Fz,bK]
  rw[show a=(a.1,a.2.1,a.2.2.1,a.2.2.2) from rfl,w,Fz,bK]
  dsimp only
  rw[t,zR l,Fz,o];rfl
theorem Co {p:Sig}(hs:sigOk p=true){cs:VC}(hb:∀c∈cs,Clause.bd c) (m:∀c∈cs,cz p c=true) (hl:cs.length<=3){w:Word}(n:wordOk w (ltr p)=true):∃r,jK p cs w=some r/\((r= -1/\∀c∈cs,Sat c (ltW w))\/∃(i:Nat) (c:Clause),r=(i:Int)/\cs[i]? =some c/\¬Sat c (ltW w)):=by
 have A:=oL hs
 have v:lu p w=some true:=by
  unfold lu
  rw[eb,hs,eP hs]
  simp only[Fz,cond_true]
  rw[re w (by omega) (by omega),n];rfl
 obtain⟨y,z,g⟩:=tc (f:=gB p cs w) (λa (_:Unit)=>∀(i:Nat) c,i<a->cs[i]? =some c->Sat c (ltW w)) (λr=>∃(i:Nat) (c:Clause),r=(i:Int)/\cs[i]? =some c/\¬Sat c (ltW w)) (λ_=>False) cs.length (s:=()) (λi c e=>absurd e (Nat.not_lt_zero i)) (λa o u t=>by
  have d:cs[a]? =some cs[a]:=o7 u
  generalize cs[a]=c at d
  have j:=EF d
  obtain⟨b,q,l⟩:=DO hs (hb c j) (m c j) n
  unfold gB
  rw[bH,d,Fz,q,Fz]
  cases b with
  |true=>
   refine⟨_,rfl,λi x e k=>?_⟩
   by_cases s:i=a
   .subst s
    rw[d]at k
    cases k
    exact l.1 rfl
   .exact t i x (by omega) k
  |false=>exact⟨_,rfl,a,c,rfl,d,λh=>by have:=l.2 h;cases this⟩)
 unfold jK
 rw[oR hs hb,decide_eq_true (by omega),Fc.2 m,v]
 simp only[Fz,Bool.and_self,E5,cond_false]
 rw[z,Fz]
 match y,g with
 |.inl r,g=>exact⟨r,rfl,.inr g⟩
 |.inr o,.inl g=>
  refine⟨-1,rfl,.inl ⟨rfl,λc j=>?_⟩⟩
  obtain⟨i,e⟩:=Ff j
  exact g i c (DX.1 e).1 e
theorem Ac {p:Sig}{m:Machine}(l:1<=m.Next.length) (n:m.Next.length<=48) (f:m.Out.length=m.Next.length) (g:∀a∈m.Next,RowIn m.Next.length (pw p.In) a) (j:∀a∈m.Out,RowIn (pw p.Out) (pw p.In) a):machOk p m=true:=by
 unfold machOk
 rw[f]
 simp only[Bool.and_eq_true,decide_eq_true_eq,beq_self_eq_true,and_true,Fc]
 refine⟨by omega,λx b=>?_⟩
 obtain⟨a,i⟩:=x
 rw[List.mem_zipIdx_iff_getElem?]at b
 have b:m.Next[i]? =some a:=b
 have o:=(DX.1 b).1
 have k:m.Out[i]? =some (m.Out[i]'(by omega)):=o7 (by omega)
 have d:=j _ (List.getElem_mem (by omega:i<m.Out.length))
 obtain⟨c,e⟩:=g a (EF b)
 unfold rowOk
 rw[k]
 simp only[Bool.and_eq_true,beq_iff_eq,Fc,dc]
 exact⟨⟨⟨c,by rw[c];exact d.1⟩,e⟩,d.2⟩
theorem DT {z:Int}(a:0<=z) (b:z<18446744073709551616):ET .u64 z=z:=by
 simp[ET,E1,IntKind.signed]
 omega
theorem en {d:dice}(hb:∀x∈d.b,U8 x) (hl:d.b.length<=4096) (l:0<=d.i) (m:d.i<=4096){k:Int}(hk:1<=k):∃x i h,cu d k=some (x,i,h)/\0<=x/\x<k/\0<=i/\i<=4096:=by
 unfold cu
 have b:nz k=some ():=by unfold nz;rw[if_neg (by omega)]
 generalize hA:(BitVec.ofInt (E1 E3) (Int.fdiv (ET .u64 (ET .u64 (d.h * 6364136223846793005)+1442695040888963407)) (2 ^ (min (Int.toNat 33) (E1 E3)))))=A
 have j:(BitVec.toNat (A &&& BitVec.ofInt (E1 E3) 16777215))<=16777215:=by
  rw[BitVec.toNat_and]
  refine Nat.le_trans Nat.and_le_right ?_
  decide
 generalize(BitVec.toNat (A &&& BitVec.ofInt (E1 E3) 16777215))=c at j
 rw[DT (by omega) (by omega),wr' (z:=(c:Int)) (by omega) (by omega)]
 by_cases a:d.i<(d.b.length:Int)
 .obtain⟨x,f,e⟩:=eB (xs:=d.b) l a
  have g:=hb x e
  unfold U8 at g
  simp only[a,decide_true,cond_true,f,Fz,b]
  rw[wr' (z:=x) (by omega) (by omega),wr' (z:=(c:Int)+x) (by omega) (by omega),wr' (by omega) (by omega),Gg (by omega)]
  exact⟨_,_,_,rfl,Int.emod_nonneg _ (by omega),Int.emod_lt_of_pos _ (by omega),by omega,by omega⟩
 .simp only[a,decide_false,cond_false,Fz,b]
  rw[Gg (by omega)]
  exact⟨_,_,_,rfl,Int.emod_nonneg _ (by omega),Int.emod_lt_of_pos _ (by omega),by omega,by omega⟩
theorem Cg (b:VI) (k:Int):∃h,vJ b k=some ⟨b,0,h⟩:=by
 unfold vJ
 obtain⟨a,d,_⟩:=bR (f:=pv b) (λ_ _=>True) b.length (s:=(ET .u64 ((ET .u64 (k * 7919))+(ET .u64 (b.length:Int))))) trivial (λc a e _=>by
  have g:b[c]? =some b[c]:=by simp[e]
  unfold pv
  rw[bH,g]
  exact⟨_,rfl,trivial⟩)
 rw[d]
 exact⟨a,rfl⟩
theorem St.up {q:Nat}{A:VI}(h:St q A):St (q+1) A:=⟨h.asc,λx a=>by have:=h.rng x a;omega⟩
theorem St.push {q:Nat}{A:VI}(h:St q A):St (q+1) (A++[(q:Int)]):=⟨List.pairwise_append.2 ⟨h.asc,by simp,λc ha b hb=>by
 rw[D4]at hb
 have:=h.rng c ha
 omega⟩,λx a=>by
 rcases D2.1 a with a|a
 .have:=h.rng x a;omega
 .rw[D4.1 a];omega⟩
section
variable {b:VI}(hb:∀x∈b,U8 x) (hl:b.length<=4096)
include hb hl
theorem set5 {i h:Int}(w:0<=i) (x:i<=4096):∃A e r,qL ⟨b,i,h⟩ 4=some (A,e,r)/\St 4 A/\0<=e/\e<=4096:=by
 unfold qL
 obtain⟨y,s,t,u,l⟩:=bR (f:=nF ⟨b,i,h⟩) (λm (a:VI×Int×Int)=>St m a.1/\0<=a.2.1/\a.2.1<=4096) 4 (s:=([],i,h)) ⟨⟨by simp,by simp⟩,w,x⟩ (λm a F ⟨c,n,o⟩=>by
  obtain⟨A,B,z⟩:=a
  have v:=c.len
  obtain⟨C,G,l,q,D,E,g,j⟩:=en (d:=⟨b,B,z⟩) hb hl n o (k:=2) (by omega)
  unfold nF
  dsimp only at v ⊢
  rw[q,Fz]
  cases C==0 with
  |true=>
   rw[cond_true,app1 (by omega) rfl,Fz]
   exact⟨_,rfl,c.push,g,j⟩
  |false=>exact⟨_,rfl,c.up,g,j⟩)
 have p:Int.toNat (4-0)=4:=rfl
 have hr:rng (4:Int)=some ():=rfl
 rw[hr,Fz,p,s]
 exact⟨_,_,_,rfl,t,u,l⟩
theorem BD {i h:Int}(D:0<=i) (E:i<=4096):∃c n v,nE ⟨b,i,h⟩=some (c,n,v)/\(c.A.length<=4/\c.B.length<=4/\cz ⟨1,1⟩ c=true)/\0<=n/\n<=4096:=by
 obtain⟨a,M,w,q,I,K,r,s⟩:=en (d:=⟨b,i,h⟩) hb hl D E (k:=7) (by omega)
 obtain⟨A,N,x,t,g,o,p⟩:=set5 hb hl (h:=w) r s
 obtain⟨B,O,L,u,f,l,m⟩:=set5 hb hl (h:=x) o p
 have C:ET .i64 (1+a)=1+a:=wr' (by omega) (by omega)
 have z:ltr (⟨1,1⟩:Sig)=4:=by decide
 have j:∀B':VI,St 4 B'->(B'=[]\/1+a=2\/1+a=3\/1+a=7)->cz ⟨1,1⟩ ⟨1+a,A,B'⟩=true:=λB' y h=>by
  unfold cz
  dsimp only
  rw[z,decide_eq_true (by omega),decide_eq_true (by omega),g.ok (by omega),y.ok (by omega)]
  rcases h with e|e|e|e
  .rw[e];simp
  .rw[e];rfl
  .rw[e];rfl
  .rw[e];rfl
 unfold nE
 rw[q,Fz,t,Fz,C]
 dsimp only
 rw[u]
 cases F:(1+a==2) with
 |true=>exact⟨_,_,_,rfl,⟨g.len,f.len,j B f (.inr (.inl (by simpa using F)))⟩,l,m⟩
 |false=>
  cases G:(1+a==3) with
  |true=>exact⟨_,_,_,rfl,⟨g.len,f.len,j B f (.inr (.inr (.inl (by simpa using G))))⟩,l,m⟩
  |false=>
   cases H:(1+a==7) with
   |true=>exact⟨_,_,_,rfl,⟨g.len,f.len,j B f (.inr (.inr (.inr (by simpa using H))))⟩,l,m⟩
   |false=>exact⟨_,_,_,rfl,⟨g.len,Nat.zero_le _,j [] ⟨by simp,by simp⟩ (.inl rfl)⟩,o,p⟩
theorem AG {i h:Int}(C:0<=i) (D:i<=4096):∃cs g o,lY ⟨b,i,h⟩ 2=some (cs,g,o)/\(∀c∈cs,c.A.length<=4/\c.B.length<=4/\cz ⟨1,1⟩ c=true)/\cs.length<=2/\0<=g/\g<=4096:=by
 obtain⟨x,E,B,s,I,K,t,u⟩:=en (d:=⟨b,i,h⟩) hb hl C D (k:=3) (by omega)
 obtain⟨F,H,p⟩:=cE (f:=iM ⟨b,i,h⟩) (λj (a:VC×Int×Int×Int)=>a.2.1=x-(j:Int)/\(j:Int)<=x/\0<=a.2.2.1/\a.2.2.1<=4096/\a.1.length=j/\∀c∈a.1,c.A.length<=4/\c.B.length<=4/\cz ⟨1,1⟩ c=true) (λ_=>False)
  (λa=>(∀c∈a.1,c.A.length<=4/\c.B.length<=4/\cz ⟨1,1⟩ c=true)/\a.1.length<=2/\0<=a.2.2.1/\a.2.2.1<=4096) 3 (λj a ⟨v,L,l,m,q,n⟩=>by
  obtain⟨cs,k,g,o⟩:=a
  dsimp only at v l m q n
  unfold iM
  dsimp only
  by_cases r:0<k
  .obtain⟨c,N,M,w,y,z,A⟩:=BD hb hl (h:=o) l m
   rw[decide_eq_true r,cond_true,w,Fz,app1 (by omega) rfl,Fz,wr' (by omega) (by omega)]
   refine⟨_,rfl,by omega,by dsimp only;omega,by omega,z,A,by dsimp only;rw[DZ,q];rfl,λG e=>?_⟩
   rcases D2.1 e with e|e
   .exact n G e
   .rw[D4.1 e];exact y
  .rw[decide_eq_false r,cond_false]
   exact⟨_,rfl,n,by dsimp only;omega,l,m⟩) (2 ^ 64) 0 ([],x,E,B) (by omega) ⟨by dsimp only;omega,by omega,t,u,rfl,by simp⟩ (by omega)
 unfold lY
 rw[wr' (by omega) (by omega),show(2:Int)+1=3 from rfl,s,Fz]
 dsimp only
 match F,p with
 |.inr a,p=>
  rw[H,Fz,bK]
  exact⟨_,_,_,rfl,p⟩
theorem Cy {f:Int×Int×Int×VI->Option ((Word×Int×Int)⊕((Int×Int×Int×VI)⊕(Int×Int×Int×VI)))}(u:∀a,f a=(bif decide (0<a.1) then EO (cu ⟨b,a.2.1,a.2.2.1⟩ 2) λx=>EO (appS 8 a.2.2.2 [x.1]) λB=>some (.inr (.inr (ET .i64 (a.1-1),x.2.1,x.2.2,B))) else some (.inr (.inl (a.1,a.2.1,a.2.2.1,a.2.2.2)))))
 {k i h:Int} (G:0<=k) (H:k<=4) (v:0<=i) (w:i<=4096):∃a:Int×Int×Int×VI,bQ f (2 ^ 64) (k,i,h,[])=some (.inr a)/\(a.2.2.2.length:Int)=k/\(∀x∈a.2.2.2,0<=x/\x<2)/\0<=a.2.1/\a.2.1<=4096:=by
 obtain⟨y,A,g⟩:=cE (f:=f) (λe a=>a.1=k-(e:Int)/\(e:Int)<=k/\0<=a.2.1/\a.2.1<=4096/\a.2.2.2.length=e/\∀x∈a.2.2.2,0<=x/\x<2) (λ_=>False) (λa=>(a.2.2.2.length:Int)=k/\(∀x∈a.2.2.2,0<=x/\x<2)/\0<=a.2.1/\a.2.1<=4096) 5 (λe a ⟨C,D,j,l,o,m⟩=>by
  rw[u]
  by_cases n:0<a.1
  .obtain⟨x,F,E,p,q,r,s,t⟩:=en (d:=⟨b,a.2.1,a.2.2.1⟩) hb hl j l (k:=2) (by omega)
   rw[decide_eq_true n,cond_true,p,Fz,app1 (by omega) rfl,Fz,wr' (by omega) (by omega)]
   refine⟨_,rfl,by omega,by dsimp only;omega,by omega,s,t,by dsimp only;rw[DZ,o];rfl,λz c=>?_⟩
   rcases D2.1 c with c|c
   .exact m z c
   .rw[D4.1 c];exact⟨q,r⟩
  .rw[decide_eq_false n,cond_false]
   exact⟨_,rfl,by dsimp only;omega,m,j,l⟩) (2 ^ 64) 0 (k,i,h,[]) (by omega) ⟨by dsimp only;omega,by omega,v,w,rfl,by simp⟩ (by omega)
 match y,g with
 |.inr a,g=>exact⟨a,A,g⟩
theorem DP {i h:Int}(u:0<=i) (v:i<=4096):∃c g r,qM ⟨b,i,h⟩ 2=some (c,g,r)/\(wordOk c 2=true/\c.Stem.length<=4/\c.Loop.length<=4)/\0<=g/\g<=4096:=by
 obtain⟨x,K,s,j,l,G,m,n⟩:=en (d:=⟨b,i,h⟩) hb hl u v (k:=4) (by omega)
 obtain⟨a,w,M,y,z,A⟩:=Cy hb hl (f:=oI ⟨b,i,h⟩ 2) (λa=>rfl) l (by omega) m n (h:=s)
 obtain⟨F,L,t,o,H,I,p,q⟩:=en (d:=⟨b,a.2.1,a.2.2.1⟩) hb hl z A (k:=4) (by omega)
 obtain⟨N,B,O,C,D,E⟩:=Cy hb hl (f:=oJ ⟨b,i,h⟩ 2) (λa=>rfl) (show 0<=1+F by omega) (by omega) p q (h:=t)
 unfold qM
 rw[j,Fz]
 dsimp only
 rw[w,Fz,bK,o,Fz]
 dsimp only
 rw[wr' (by omega) (by omega),B,Fz,bK]
 refine⟨_,_,_,rfl,⟨?_,by dsimp only;omega,by dsimp only;omega⟩,D,E⟩
 unfold wordOk
 dsimp only
 rw[decide_eq_true (by omega),decide_eq_true (by omega),decide_eq_true (by omega),Fc.2 λx e=>dc.2 (y x e),Fc.2 λx e=>dc.2 (C x e)]
 rfl
end
theorem zf {p:Sig}(hs:sigOk p=true){cs:VC}(hb:∀c∈cs,Clause.bd c) (e:∀c∈cs,cz p c=true) (hl:cs.length<=2){w:Word}(g:wordOk w (ltr p)=true) (f:∃c∈cs,¬Sat c (ltW w)):mY p cs w=some false:=by
 obtain⟨k,j,a⟩:=Co hs hb e (by omega) g
 unfold mY
 rw[j,Fz]
 rcases a with ⟨_,a⟩|⟨i,c,rfl,_⟩
 .obtain⟨c,b,d⟩:=f
  exact absurd (a c b) d
 .rw[show((i:Int)== -1)=false from beq_eq_false_iff_ne.2 (by omega)]
theorem FnEither_law {p0:VI}(aI:okS U8 p0):qd p0=some true:=by
 unfold qd zp
 rw[Fz]
 by_cases I:4096<(p0.length:Int)
 .rw[decide_eq_true I,cond_true]
 .rw[decide_eq_false I,cond_false]
  have hb:=aI.1
  have hl:p0.length<=4096:=by omega
  have hs:sigOk ⟨1,1⟩=true:=by decide
  have a2:pw (⟨1,1⟩:Sig).In=2:=by decide
  have aj:pw (⟨1,1⟩:Sig).Out=2:=by decide
  obtain⟨h,hr⟩:=Cg p0 615
  rw[hr,Fz]
  obtain⟨cs,P,ha,R,A,n,a,e⟩:=AG hb hl (i:=0) (h:=h) (by omega) (by omega)
  rw[R,Fz]
  dsimp only
  have y:∀c∈cs,Clause.bd c:=λc z=>by
   obtain⟨x,a5,_⟩:=A c z
   exact⟨trivial,⟨by omega,λ_ _=>trivial⟩,⟨by omega,λ_ _=>trivial⟩⟩
  have j:∀c∈cs,cz ⟨1,1⟩ c=true:=λc z=>(A c z).2.2
  rcases xa hs y j n with ⟨o,⟨M,p⟩,q,s⟩|⟨d,r,a0,o,p,q,s,hR⟩
  .rw[o,p]
   simp only[Fz,q,s]
   rfl
  .rw[o,p]
   simp only[Fz,q,s,bne_self_eq_false]
   have ah:=hR.le
   obtain⟨aS,al,C,S,T,U,a,e⟩:=en (d:=⟨p0,P,ha⟩) hb hl a e (k:=2) (by omega)
   obtain⟨aT,L,v,t,u,B,a,e⟩:=en (d:=⟨p0,al,C⟩) hb hl a e (k:=2) (by omega)
   obtain⟨aU,am,D,Y,Z,aa,a,e⟩:=en (d:=⟨p0,L,v⟩) hb hl a e (k:=2) (by omega)
   obtain⟨aV,an,E,ab,ac,ad,a,e⟩:=en (d:=⟨p0,am,D⟩) hb hl a e (k:=2) (by omega)
   obtain⟨aW,ao,F,ae,af,ag,a,e⟩:=en (d:=⟨p0,an,E⟩) hb hl a e (k:=2) (by omega)
   obtain⟨aX,ap,G,ar,au,av,a,e⟩:=en (d:=⟨p0,ao,F⟩) hb hl a e (k:=2) (by omega)
   obtain⟨aY,aq,H,aw,ax,ay,a,e⟩:=en (d:=⟨p0,ap,G⟩) hb hl a e (k:=2) (by omega)
   obtain⟨aZ,N,w,az,aA,aB,a,e⟩:=en (d:=⟨p0,aq,H⟩) hb hl a e (k:=2) (by omega)
   have K:∀{m b c d:Int},0<=m->m<2->0<=b->b<2->0<=c->c<2->0<=d->d<2->∀Q∈[[m,b],[c,d]],RowIn 2 2 Q:=λC v D E F G H w Q hr=>by
    simp only[D3,List.not_mem_nil,or_false]at hr
    rcases hr with rfl|rfl <;> refine⟨rfl,λx ak=>?_⟩ <;> simp only[D3,List.not_mem_nil,or_false]at ak <;> omega
   have ai:machOk ⟨1,1⟩ ⟨[[aS,aT],[aU,aV]],[[aW,aX],[aY,aZ]]⟩=true:=Ac (by simp) (by simp) rfl (K T U u B Z aa ac ad) (K af ag au av ax ay aA aB)
   obtain⟨l,O,aC,aD,aE,aF⟩:=CJ hs hR.ok ai (by simp;omega)
   obtain⟨aQ,aR⟩:=yv hs hR j
   have aG:=zf hs y j n aD (by rw[aF];exact hR.sat O aE)
   obtain⟨g,aJ,a4⟩:=bR (f:=jI ⟨p0,0,h⟩ (cs,P,ha) (r,true)) (λ_ (g:Int×Int)=>0<=g.1/\g.1<=4096) 4 (s:=(N,w)) ⟨a,e⟩ (λa3 g _ ⟨aO,aP⟩=>by
    obtain⟨l,L,v,t,⟨u,B,V⟩,W,X⟩:=DP hb hl (h:=g.2) aO aP
    have a1:r.In.length * l.Loop.length<=32 * 4:=Nat.mul_le_mul ah V
    obtain⟨x,aK,aL,aM,aN⟩:=DE hs hR.ok (w:=l) (by rw[aj];exact u) (by omega)
    have aH:=zf hs y j n aL (by rw[aM];exact hR.sat _ aN)
    unfold jI
    dsimp only
    rw[t,Fz,aK,Fz]
    dsimp only
    rw[aH]
    exact⟨_,rfl,W,X⟩)
   rw[S,Fz,t,Fz,Y,Fz,ab,Fz,ae,Fz,ar,Fz,aw,Fz,az,Fz]
   dsimp only
   rw[aC,Fz]
   dsimp only
   rw[aG,aQ,aR]
   show EO (cntM _ 4 0 (N,w)) _=_
   rw[aJ];rfl
end Go.Proofs.YtfombamjdkihnaaGreat
