/- One more in a set, a copy: by the reference. -/
import Derived.Test.YtgbippnfaoedmaaGreatDoorL0BG
set_option linter.unusedVariables false
set_option linter.unusedSimpArgs false
open Bool renaming and_eq_true → rx, eq_iff_iff → zE, not_false → zF, not_true → zG
open Classical renaming byContradiction → zJ, not_forall → Ah
open Int renaming natCast_nonneg → Ai, ofNat → zK, toNat → zq, toNat_natCast → Aj
open Go.IntKind renaming wrap → zr
open List renaming all_eq_true → zL, ext_getElem? → yS, filter_append → zM, getElem?_eq_getElem → nx, getElem?_eq_none → Ak, getElem?_eq_some_iff → yo, getElem?_map → yX, getElem?_replicate → zP, length_eq_zero_iff → zQ, length_filter_le → zR, length_map → Al, length_nil → zS, length_replicate → yZ, length_take → y8, mem_append → yu, mem_append_left → zT, mem_cons_self → zU, mem_filter → zV, mem_of_getElem? → ze, mem_range → zX, mem_singleton → yw, mem_zipIdx_iff_getElem? → zY, nil_append → zz, not_mem_nil → yx, range → Am, replicate → zf, take_add_one → Aa, take_length → Ac
open Nat renaming le_refl → yE, le_trans → Ae, mod_eq_of_lt → An, not_lt_zero → Ao
open Option renaming bind → zm, bind_some → Af
open Option.some renaming inj → zt
open Go.Proofs.YtgbippnfaoedmaaGreatDoor.Par renaming Dom → Ap, NoDead → Aq, Sol → Ar, oddP → As
namespace Go.Proofs.YtgbippnfaoedmaaGreatDoor
open Go Go.Wk Go.Proofs
theorem vW {xs:VI}(h:Asc xs){n:Int}(hn:n∉xs) (hl:xs.length<=100000):g6 xs n=some (ins n xs):=by
 obtain⟨C,E,F⟩:=bI (f:=dR xs n) (λa (i:Int)=>i=(a:Int)/\a<=xs.length/\∀(c:Nat) b,c<a->xs[c]? =some b->b<n) (λ_=>False) (λi=>∃k:Nat,i=(k:Int)/\k<=xs.length/\(∀(c:Nat) b,c<k->xs[c]? =some b->b<n)/\∀b,xs[k]? =some b->n<b) xs.length (λa i ⟨e,r,l⟩=>by
  subst e
  unfold dR
  by_cases g:(a:Int)<(xs.length:Int)
  .have j:xs[a]? =some (xs[a]'(by omega)):=nx (by omega)
   have s:=List.getElem_mem (show a<xs.length by omega)
   generalize xs[a]'(by omega)=b at j s
   simp only[g,decide_true,cond_true,aS,j,Af]
   by_cases m:b<n
   .simp only[m,decide_true,cond_true]
    refine⟨_,rfl,by omega,by rw[wr' (by omega) (by omega)];omega,by omega,λc p w d=>?_⟩
    by_cases x:c=a
    .subst x;rw[j]at d;cases d;exact m
    .exact l c p (by omega) d
   .simp only[m,decide_false,cond_false]
    refine⟨_,rfl,a,rfl,r,l,λp d=>?_⟩
    rw[j]at d
    cases d
    have:b≠n:=λe=>hn (e ▸ s)
    omega
  .simp only[g,decide_false,cond_false,Af]
   exact⟨_,rfl,a,rfl,r,l,λp d=>by have:=(yo.1 d).1;omega⟩)
  (2 ^ 64) 0 0 (by omega) ⟨rfl,by omega,λc b w=>by omega⟩ (by omega)
 match C,F with
 |.inr i,⟨k,e,y,u,q⟩=>
  subst e
  unfold g6
  rw[E,Af,aU]
  have v:(zm (bif decide ((k:Int)<(xs.length:Int)) then zm (idx xs (k:Int)) λo=>some (o==n) else some false) λD=>bif D then some xs else
   zm (subS xs 0 (k:Int)) λG=>zm (dQ G) λH=>zm (appS 8 H [n]) λI=>zm (subS xs (k:Int) (xs.length:Int)) λK=>zm (appS 8 I K) λL=>some L)=some (xs.take k++[n]++xs.drop k):=by
   have hp:(bif decide ((k:Int)<(xs.length:Int)) then zm (idx xs (k:Int)) λo=>some (o==n) else some false)=some false:=by
    by_cases g:(k:Int)<(xs.length:Int)
    .have t:xs[k]? =some (xs[k]'(by omega)):=nx (by omega)
     have:=q _ t
     have z:(xs[k]'(by omega)==n)=false:=by
      rw[beq_eq_false_iff_ne];omega
     simp only[g,decide_true,cond_true,aS,t,Af,z]
    .simp only[g,decide_false,cond_false]
   have A:subS xs 0 (k:Int)=some (xs.take k):=by
    unfold subS
    rw[if_pos (by omega),Aj];rfl
   have B:subS xs (k:Int) (xs.length:Int)=some (xs.drop k):=by
    unfold subS
    rw[if_pos (by omega),Aj,Aj,Ac]
   have M:(xs.take k).length<=100000:=by rw[y8];omega
   rw[hp,Af]
   simp only[cond_false]
   rw[A,Af]
   unfold dQ
   rw[appL (by rw[zS];omega) rfl,Af,Af,zz,app1 (by omega) rfl,Af,B,Af,appL (by rw[List.length_append,List.length_drop,List.length_singleton];omega) rfl]
   rfl
  rw[v,List.append_assoc,List.singleton_append,vV h hn y u q]
theorem qC {xs:VI}(hl:xs.length<=10000000):dQ xs=some xs:=by
 unfold dQ
 rw[appL (by rw[zS];omega) rfl];rfl
structure GOk (g:Parity) (n:Nat):Prop where
 n256:n<=256
 lo:g.Arena.Owner.length=n
 lp:g.Prio.length=n
 ln:g.Arena.Next.length=n
 ow:∀v o,idx g.Arena.Owner v=some o->o=0\/o=1
 row:∀v r,idx g.Arena.Next v=some r->r.length<=16/\r.Nodup/\∀u∈r,0<=u/\u<n
 pri:PriOk g.Prio
theorem ml {a:Type}{xs:List a}{v:Int}{x:a}(h:idx xs v=some x):x∈xs:=by
 obtain⟨b,_⟩:=bu h
 rw[dE b]at h
 exact ze h
theorem GOk.of {g:Parity}(h:bC g=true):GOk g g.Prio.length:=by
 obtain⟨u,w,x,y,b⟩:=eB h
 obtain⟨c,d⟩:=sH h
 refine⟨by omega,by omega,rfl,by omega,λv l f=>?_,λv n a=>?_,λv m i=>?_⟩
 .have:=kM.1 (c l (ml f))
  omega
 .obtain⟨t,_⟩:=bu a
  obtain⟨k,e⟩:=bA t
  subst e
  rw[aS]at a
  obtain⟨z,o,p⟩:=b k n a
  obtain⟨q,r⟩:=kY.1 p
  exact⟨o,cH r,λs j=>by have:=q s j;omega⟩
 .have:=kM.1 (d m (ml i))
  omega
section
variable {g:Parity}{n:Nat}(h:GOk g n)
include h
theorem sw:∃P,jw g.Arena=some P/\PrevT g.Arena.Next n n P:=by
 have hn:=h.n256
 unfold jw
 rw[h.lo,bL (by omega) rfl,Af,h.ln]
 obtain⟨b,k,l⟩:=ba (f:=fF g.Arena) (λa (b:VV)=>PrevT g.Arena.Next n a b) n (s:=zf n []) PrevT.zero (λa b i o=>by
  have d:g.Arena.Next[a]? =some (g.Arena.Next[a]'(by rw[h.ln];exact i)):=nx (by rw[h.ln];exact i)
  generalize g.Arena.Next[a]'(by rw[h.ln];exact i)=row at d
  obtain⟨C,w,x⟩:=h.row (a:Int) row (by rw[aS];exact d)
  unfold fF
  rw[aS,d,Af]
  obtain⟨j,q,r⟩:=ba (f:=fG (a:Int) row) (λc (j:VV)=>PrevM g.Arena.Next n a row c j) row.length (s:=b) (o.first row) (λc j m p=>by
   have e:row[c]? =some row[c]:=nx m
   generalize row[c]=u at e
   obtain⟨y,z⟩:=x u (ze e)
   obtain⟨B,s,A,D,t,v⟩:=p.step e w y z
   unfold fG
   rw[aS,e,Af,s,Af,app1 (by omega) rfl,Af,Af,t,Af]
   exact⟨_,rfl,v⟩)
  rw[q,Af,aU]
  exact⟨_,rfl,r.last d⟩)
 rw[k,Af,aU]
 exact⟨b,rfl,l⟩
theorem tL:∃P,mW g=some ⟨g.Arena.Owner,g.Prio,g.Arena.Next,P,zf n (-1)⟩/\PrevT g.Arena.Next n n P:=by
 have hn:=h.n256
 unfold mW
 rw[h.lp,bL (by omega) rfl,Af,bL (by omega) rfl,Af]
 obtain⟨c,y,z,Q,A⟩:=ba (f:=jK g) (λb (c:VV×VI)=>PrevT g.Arena.Next n b c.1/\c.2.length=n/\∀a:Nat,a<b->idx c.2 (a:Int)=some (-1)) n (s:=(zf n [],zf n 0)) ⟨PrevT.zero,by simp,λa i=>absurd i (Ao a)⟩ (λb c o ⟨v,H,x⟩=>by
  obtain⟨c,k⟩:=c
  dsimp only at v H x
  have j:g.Arena.Next[b]? =some (g.Arena.Next[b]'(by rw[h.ln];exact o)):=nx (by rw[h.ln];exact o)
  generalize g.Arena.Next[b]'(by rw[h.ln];exact o)=row at j
  obtain⟨U,I,K⟩:=h.row (b:Int) row (by rw[aS];exact j)
  obtain⟨w,B⟩:=bg (xs:=k) (i:=(b:Int)) (by omega) (by omega)
  obtain⟨k',s,R⟩:=bj (xs:=k) (i:=(b:Int)) (-1) (by omega) (by omega)
  unfold jK
  dsimp only
  rw[B,Af,s,Af]
  obtain⟨G,N,q⟩:=bI (f:=jL g (b:Int)) (λa (d:Int×VV)=>d.1=(a:Int)/\a<=row.length/\PrevM g.Arena.Next n b row a d.2) (λ_=>False) (λd=>PrevM g.Arena.Next n b row row.length d.2) row.length (λa d ⟨r,O,m⟩=>by
   obtain⟨S,d⟩:=d
   dsimp only at r m
   subst r
   unfold jL
   dsimp only
   rw[aS,j,Af]
   by_cases t:a<row.length
   .have p:(a:Int)<(row.length:Int):=by omega
    have l:row[a]? =some row[a]:=nx t
    generalize row[a]=u at l
    obtain⟨L,M⟩:=K u (ze l)
    obtain⟨w,D,T,V,E,F⟩:=m.step l I L M
    have C:zr .i64 ((a:Int)+1)=((a+1:Nat):Int):=by rw[wr' (by omega) (by omega)];omega
    simp only[p,decide_true,cond_true,Af,aS,l,D,app1 (show w.length<=10000000000 by omega) (show Nat.ble 8 1024=true from rfl),E,C]
    exact⟨_,rfl,t,rfl,by omega,F⟩
   .have p:¬(a:Int)<(row.length:Int):=by omega
    simp only[p,decide_false,cond_false]
    have e:a=row.length:=by omega
    subst e
    exact⟨_,rfl,m⟩) (2 ^ 64) 0 (0,c) (by omega) ⟨rfl,by omega,v.first row⟩ (by omega)
  match G,q with
  |.inr d,q=>
   rw[N,Af,aU]
   refine⟨_,rfl,q.last j,by dsimp only;omega,λa i=>?_⟩
   dsimp only
   rw[bp s]
   by_cases e:(a:Int)=(b:Int)
   .rw[if_pos e]
   .rw[if_neg e];exact x a (by omega))
 rw[y,Af,aU]
 have e:c.2=zf n (-1):=by
  apply yS
  intro a
  rw[zP]
  by_cases i:a<n
  .rw[if_pos i,← aS];exact A a i
  .rw[if_neg i];exact Ak (by omega)
 refine⟨c.1,?_,z⟩
 rw[e]
theorem GOk.wfI {P:VV}(c:PrevT g.Arena.Next n n P):WfI ⟨g,P⟩ n:=by
 refine⟨h.n256,h.lo,h.lp,h.ln,c.1,h.ow,h.row,λb Q a=>?_⟩
 obtain⟨e,d⟩:=bu a
 have d:b<(P.length:Int):=d
 have a:idx P b=some Q:=a
 rw[c.2 b e (by have:=c.1;omega)]at a
 cases a
 have:=mR g.Arena.Next b n
 have:=h.n256
 exact⟨nh _ _ _,by omega,λv=>pF h.ln⟩
theorem GOk.wfS {P:VV}(c:PrevT g.Arena.Next n n P){k:VI}(e:k.length=n):WfS ⟨g.Arena.Owner,g.Prio,g.Arena.Next,P,k⟩ n:=by
 refine⟨h.n256,h.lo,h.lp,h.ln,e,c.1,h.ow,h.row,λb Q a=>?_⟩
 obtain⟨f,d⟩:=bu a
 have d:b<(P.length:Int):=d
 have a:idx P b=some Q:=a
 rw[c.2 b f (by have:=c.1;omega)]at a
 cases a
 have:=mR g.Arena.Next b n
 have:=h.n256
 exact⟨nh _ _ _,by omega,λv=>pF h.ln⟩
theorem vQ (P:VV):gS ⟨g.Arena.Owner,g.Prio,g.Arena.Next,P,zf n (-1)⟩=gI g:=by
 unfold gS gI
 congr 1
 funext v
 unfold rowS bm
 dsimp only
 cases b:idx g.Arena.Next v with
 |none=>rfl
 |some a=>
  obtain⟨c,e⟩:=bu b
  have:idx (zf n (-1:Int)) v=some (-1):=by
   rw[dE c,zP,if_pos (by have:=h.ln;omega)]
  rw[this]
  show a.filter (okE (-1))=a
  rw[List.filter_eq_self]
  intro d _
  rfl
theorem wV:mw (g.Prio.length:Int)=some (zf n true):=by
 have hn:=h.n256
 unfold mw
 have l:rng (n:Int)=some ()\/True:= .inr trivial
 rw[h.lp,bL (by omega) rfl,Af,show zq ((n:Int)-0)=n from by omega]
 obtain⟨c,e,j,i⟩:=fill (f:=iO) (λ_=>true) n (s0:=zf n false) (by simp) (λo c k m=>by
  unfold iO
  rfl)
 rw[e]
 have d:c=zf n true:=by
  apply yS
  intro b
  rw[zP]
  by_cases a:b<n
  .rw[if_pos a,← aS];exact i b a
  .rw[if_neg a];exact Ak (by omega)
 subst d
 have:rng (n:Int)=some ():=by
  unfold rng
  first
   |rfl
   |rw[if_pos (by omega)]
 rw[this];rfl
omit h in
theorem wT (v:Int):In (zf n true) v↔0<=v/\v<n:=by
 constructor
 .intro h
  have:=bu h
  simpa using this
 .rintro⟨a,b⟩
  unfold In
  rw[dE a,zP,if_pos (by omega)]
theorem kr {L:VI}(o:∀v∈L,0<=v/\v<n):∃R,fB g.Arena L=some R/\R.length=n/\∀v,In R v↔v∈L:=by
 have hn:=h.n256
 unfold fB
 rw[h.lo,bL (by omega) rfl,Af]
 obtain⟨a,w,m,l⟩:=ba (f:=gM L) (λb (a:VB)=>a.length=n/\∀v:Int,0<=v->v<n->idx a v=some (decide (v∈L.take b))) L.length (s:=zf n false) ⟨by simp,λv c k=>by
  rw[dE c,zP,if_pos (by omega)];simp⟩ (λb a x ⟨z,s⟩=>by
  have j:L[b]? =some L[b]:=nx x
  generalize L[b]=u at j
  obtain⟨t,y⟩:=o u (ze j)
  obtain⟨A,r,hl⟩:=bj (xs:=a) (i:=u) true t (by omega)
  unfold gM
  rw[aS,j,Af,s u t y,Af,r,Af]
  refine⟨_,rfl,by omega,λv c k=>?_⟩
  rw[bp r,bi j]
  by_cases d:v=u
  .rw[if_pos d];simp[d]
  .rw[if_neg d,s v c k];simp[d])
 rw[w,Af,aU]
 refine⟨a,rfl,m,λv=>?_⟩
 rw[Ac]at l
 constructor
 .intro e
  have p:=ii m e
  unfold In at e
  rw[l v p.1 p.2]at e
  simpa using e
 .intro q
  obtain⟨c,k⟩:=o v q
  unfold In
  rw[l v c k]
  simpa using q
theorem oS {L:VI}(r:∀v∈L,0<=v/\v<n) (s:Aq (gI g) (λv=>v∈L)):∃f O W,kL g L=some (f,O)/\Ar (gI g) (λv=>v∈L) false W/\(∀v,v∈f↔W v)/\(∀v,v∈O↔v∈L/\¬W v)/\f.length<=n/\O.length<=n:=by
 have hn:=h.n256
 obtain⟨P,u,w⟩:=sw h
 obtain⟨M,t,m,d⟩:=kr h r
 have k:In M=λv=>v∈L:=funext λv=>propext (d v)
 obtain⟨R,o,x,y,e⟩:=xX (h.wfI w) h.pri n M (2 ^ 64) m (by rw[k];exact s) (by have:=mI M;omega) (by omega)
 obtain⟨X,z,C,p⟩:=j6 m y hn
 have A:=gk R R.length
 have B:=gk X X.length
 have e:Ar (gI g) (In M) o (In R):=e
 unfold kL
 rw[u,Af,t,Af,x,Af]
 dsimp only
 rw[lM,jD (by omega),z]
 simp only[Af]
 rw[jD (by omega)]
 simp only[Af]
 have j:=e.asP false
 rw[k]at j
 have l:=e.sub
 cases o with
 |false=>
  simp only[zF,cond_true]
  refine⟨_,_,_,rfl,j,λv=>?_,λv=>?_,by omega,by omega⟩
  .rw[bF]
   exact⟨λa=>⟨(d v).1 (l v a),λ_=>rfl,λ_=>a⟩,λa=>a.2.2 rfl⟩
  .rw[bF,p,d]
   exact⟨λa=>⟨a.1,λc=>a.2 (c.2.2 rfl)⟩,λa=>⟨a.1,λb=>a.2 ⟨a.1,λ_=>rfl,λ_=>b⟩⟩⟩
 |true=>
  simp only[zG,cond_false]
  refine⟨_,_,_,rfl,j,λv=>?_,λv=>?_,by omega,by omega⟩
  .rw[bF,p,d]
   exact⟨λa=>⟨a.1,λb=>absurd b a.2,λi=>absurd i (by decide)⟩,λa=>⟨a.1,λb=>absurd (a.2.1 b) (by decide)⟩⟩
  .rw[bF]
   constructor
   .intro b
    exact⟨(d v).1 (l v b),λc=>absurd (c.2.1 b) (by decide)⟩
   .rintro⟨hl,c⟩
    apply zJ
    intro b
    exact c ⟨hl,λq=>absurd q b,λi=>absurd i (by decide)⟩
end
section
open Classical
theorem kc {a:Arena}(h:a.Owner.length<=256):ij a=some ((Am a.Owner.length).map zK):=by
 unfold ij lB nJ
 rw[Af,show decide ((a.Owner.length:Int)<0)=false from by simp]
 simp only[cond_false,Af]
 rw[show decide ((256:Int)<(a.Owner.length:Int))=false from by simp;omega,cond_false,show zq ((a.Owner.length:Int)-0)=a.Owner.length from by omega]
 obtain⟨b,d,e⟩:=ba (f:=iC) (λc (b:VI)=>b=(Am c).map zK) a.Owner.length (s:=[]) rfl (λc b i g=>by
  subst g
  unfold iC
  rw[app1 (by rw[Al,List.length_range];omega) rfl,Af]
  exact⟨_,rfl,by rw[List.range_succ,List.map_append];rfl⟩)
 rw[d]
 subst e
 have:rng (a.Owner.length:Int)=some ():=by
  unfold rng
  first
   |rfl
   |rw[if_pos (by omega)]
 rw[this];rfl
noncomputable def wonL (n:Nat) (W:Int->Prop):VI:=(Am n).map λ(v:Nat)=>b2i (decide (¬W (v:Int)))
theorem iX (n:Nat) (W:Int->Prop):(wonL n W).length=n:=by unfold wonL;rw[Al,List.length_range]
theorem sj {n:Nat}{W:Int->Prop}{v:Nat}(h:v<n):(wonL n W)[v]? =some (b2i (decide (¬W (v:Int)))):=by
 unfold wonL
 rw[yX,List.getElem?_range h];rfl
theorem lb {n:Nat}{W:Int->Prop}{l:VI}(hl:l.length=n) (h:∀v:Nat,v<n->l[v]? =some (b2i (decide (¬W (v:Int))))):l=wonL n W:=by
 apply yS
 intro b
 by_cases a:b<n
 .rw[h b a,sj a]
 .rw[Ak (by omega),Ak (by rw[iX];omega)]
theorem eN {g:Parity}{n:Nat}(h:GOk g n) (d:∀v a,idx g.Arena.Next v=some a->a≠[]):Aq (gI g) (λv=>0<=v/\v<n):=λv ⟨e,i⟩=>by
 obtain⟨a,b⟩:=bg (xs:=g.Arena.Next) e (by have:=h.ln;omega)
 cases a with
 |nil=>exact absurd rfl (d v [] b)
 |cons c f=>
  refine⟨c,?_,(h.row v _ b).2.2 c (zU ..)⟩
  show c∈bm g.Arena v
  rw[c8 b];exact zU ..
theorem vD {g:Parity}{n:Nat}(h:GOk g n) (Q:∀v H,idx g.Arena.Next v=some H->H≠[]):∃W,gA g=some (wonL n W)/\gh g=some (wonL n W)/\Ar (gI g) (λv=>0<=v/\v<n) false W:=by
 have hn:=h.n256
 have y:=eN h Q
 -- the program
 have j:∀v:Int,v∈(Am n).map zK↔0<=v/\v<n:=λv=>by
  rw[List.mem_map]
  constructor
  .rintro⟨w,q,rfl⟩
   rw[zX]at q
   exact⟨Ai w,by show(w:Int)<n;omega⟩
  .rintro⟨e,s⟩
   obtain⟨w,q⟩:=bA e
   subst q
   exact⟨w,zX.2 (by omega),rfl⟩
 have t:(λv=>v∈(Am n).map zK)=λv:Int=>0<=v/\v<n:=funext λv=>propext (j v)
 obtain⟨M,O,W,T,r,aa,F,ab,ac⟩:=oS h (L:=(Am n).map zK) (λv E=>(j v).1 E) (by rw[t];exact y)
 rw[t]at r
 refine⟨W,?_,?_,r⟩
 · -- the reference
   obtain⟨P,U,V⟩:=tL h
   have z:=vQ h P
   have x:In (zf n true)=λv:Int=>0<=v/\v<n:=funext λv=>propext (wT v)
   obtain⟨R,X,Y,I⟩:=wS (h.wfS V (k:=zf n (-1)) (by simp)) h.pri n (zf n true) (2 ^ 64) (by simp) (by rw[x,z];exact y) (by have:=mI (zf n true);simp at this;exact this) (by omega)
   rw[z,x]at I
   have S:=I.uniq r
   unfold gA
   rw[U,Af,wV h,Af,X,Af,Y]
   obtain⟨b,o,p,i⟩:=ba (f:=iU R) (λa (b:VI)=>b.length=a/\∀c:Nat,c<a->b[c]? =some (b2i (decide (¬W (c:Int))))) n (s:=[]) ⟨rfl,λc A=>absurd A (Ao c)⟩ (λa b C ⟨G,m⟩=>by
    unfold iU
    rw[cd (B:=R) (by omega) (by omega),Af]
    have N:kz (decide (In R (a:Int)))=some (b2i (decide (In R (a:Int)))):=by
     unfold kz
     cases decide (In R (a:Int)) <;> rfl
    rw[N,Af,mG,app1 (by omega) rfl,Af]
    refine⟨_,rfl,by rw[List.length_append];simp;omega,λc A=>?_⟩
    by_cases d:c<a
    .rw[List.getElem?_append_left (by omega)];exact m c d
    .have:c=a:=by omega
     subst this
     rw[List.getElem?_append_right (by omega),G,Nat.sub_self]
     show some _=some _
     congr 2
     rw[← decide_not]
     exact decide_eq_decide.2 (not_congr (S _)))
   rw[o,Af,aU,lb p i]
 .unfold gh
  rw[h.lp,bL (by omega) rfl,Af,kc (by have:=h.lo;omega),h.lo,Af,T,Af]
  obtain⟨b,o,p,i⟩:=ba (f:=fK (M,O)) (λa (b:VI)=>b.length=n/\∀v:Int,0<=v->v<n->idx b v=some (b2i (decide (v∈O.take a)))) O.length (s:=zf n 0) ⟨by simp,λv e s=>by
   rw[dE e,zP,if_pos (by omega)];simp[b2i]⟩ (λa b C ⟨G,m⟩=>by
   have l:O[a]? =some O[a]:=nx C
   generalize O[a]=u at l
   obtain⟨K,Z⟩:=(j u).1 ((F u).1 (ze l)).1
   obtain⟨ad,D,hl⟩:=bj (xs:=b) (i:=u) 1 K (by omega)
   unfold fK
   dsimp only
   rw[aS,l,Af,m u K Z,Af,D,Af]
   refine⟨_,rfl,by omega,λv e s=>?_⟩
   rw[bp D,bi l]
   by_cases d:v=u
   .rw[if_pos d];simp[d,b2i]
   .rw[if_neg d,m v e s];simp[d])
  dsimp only
  rw[o,Af,aU]
  congr 1
  rw[Ac]at i
  refine lb p λv E=>?_
  rw[← aS,i _ (by omega) (by omega)]
  congr 2
  refine decide_eq_decide.2 ?_
  rw[F,j]
  exact⟨λh=>h.2,λh=>⟨⟨by omega,by omega⟩,h⟩⟩
theorem gp {g:Parity}(hp:bC g=true):∀v a,idx g.Arena.Next v=some a->a≠[]:=λv a b c=>by
 obtain⟨j,k,l,m,d⟩:=eB hp
 obtain⟨i,_⟩:=bu b
 obtain⟨f,e⟩:=bA i
 subst e
 rw[aS]at b
 have:=(d f a b).1
 rw[c]at this
 simp at this
end
end Go.Proofs.YtgbippnfaoedmaaGreatDoor
namespace Go.Proofs.YtgbippnfaoedmaaGreatDoor.Par
section
open Classical
variable {G H:Gm}{X Y C T W W' D:Int->Prop}{p:Bool}{w w':Int->Bool}{k k':Int->Int}
theorem Dom.self (h:Dom G X p D):Dom G D p D:=by
 obtain⟨e,f,a,g,b⟩:=h
 exact⟨e,λv d=>d,a,λv i _ _ _ c=>c,b⟩
theorem Dom.congrG (h:Dom G X p D) (g:∀v,D v->H.own v=G.own v) (hp:∀v,D v->H.pri v=G.pri v) (f:∀v c,D v->(H.E v c↔G.E v c)):Dom H X p D:=by
 obtain⟨k,l,m,o,q⟩:=h
 refine⟨k,l,λv b a=>?_,λv c b a y A=>?_,λd j=>?_⟩
 .rw[g v b]at a
  have:=m v b a
  exact⟨(f v _ b).2 this.1,this.2⟩
 .rw[g v b]at a
  exact o v c b a ((f v c b).1 y) A
 .have z:Play G p D k d:=λn=>by
   obtain⟨e,r,s⟩:=j n
   exact⟨e,(f _ _ e).1 r,λa=>s (by rw[g _ e];exact a)⟩
  obtain⟨x,t,u,N,w⟩:=q d z
  have i:∀n,H.pri (d n)=G.pri (d n):=λn=>hp _ (j n).1
  exact⟨x,t,λM=>by obtain⟨n,B,C⟩:=u M;exact⟨n,B,by rw[i];exact C⟩,N,λn hn=>by rw[i];exact w n hn⟩
theorem Dom.restrict (h:Dom G X p D) (m:∀v c,C v->G.E v c->C c):Dom G (λv=>X v/\C v) p (λv=>D v/\C v):=by
 obtain⟨s,g,i,j,k⟩:=h
 refine⟨s,λv a=>⟨g v a.1,a.2⟩,λv a e=>?_,λv c a e o f=>⟨j v c a.1 e o f.1,f.2⟩,λr q=>k r λn=>?_⟩
 .obtain⟨b,d⟩:=i v a.1 e
  exact⟨b,d,m v _ a.2 b⟩
 .obtain⟨b,d,l⟩:=q n
  exact⟨b.1,d,l⟩
theorem Sol.restrict (h:Sol G X p W) (d:∀v f,C v->G.E v f->C f):Sol G (λv=>X v/\C v) p (λv=>W v/\C v):=by
 refine⟨λv e=>⟨h.sub v e.1,e.2⟩,h.mine.restrict d,(h.yours.restrict d).congr λv=>?_⟩
 constructor
 .rintro⟨⟨b,c⟩,a⟩
  exact⟨⟨b,a⟩,λh=>c h.1⟩
 .rintro⟨⟨b,a⟩,c⟩
  exact⟨⟨b,λh=>c ⟨h,a⟩⟩,a⟩
theorem Sol.congrG (h:Sol G X p W) (d:∀v,X v->H.own v=G.own v) (hp:∀v,X v->H.pri v=G.pri v) (c:∀v b,X v->(H.E v b↔G.E v b)):Sol H X p W:=
 ⟨h.sub,h.mine.congrG (λv a=>d v (h.sub v a)) (λv a=>hp v (h.sub v a)) (λv b a=>c v b (h.sub v a)),
  h.yours.congrG (λv a=>d v a.1) (λv a=>hp v a.1) (λv b a=>c v b a.1)⟩
theorem hold_iff {R:Int->Prop}{q:Bool}(b:Sol G Y false R):(∀c,Y c->(R c↔q=false))↔Dom G Y q Y:=by
 constructor
 .intro h
  cases q with
  |false=>exact b.mine.congr λv=>⟨b.sub v,λa=>(h v a).2 rfl⟩
  |true=>exact b.yours.congr λv=>⟨λa=>a.1,λa=>⟨a,λf=>absurd ((h v a).1 f) (by decide)⟩⟩
 .intro h c d
  have:=b.uniq ((Sol.all h).asP false) c
  rw[this]
  exact⟨λh=>(h.2.1 d).symm,λe=>⟨d,λ_=>e.symm,λ_=>d⟩⟩
def pickG (G:Gm) (k:Int->Int):Gm:=⟨G.own,G.pri,λv a=>G.E v a/\(k v<0\/k v=a)⟩
def Rg (X:Int->Prop) (w:Int->Bool) (q:Bool):Int->Prop:=λv=>X v/\w v=q
def updF (k:Int->Int) (v u:Int):Int->Int:=λa=>if a=v then u else k a
structure PInv (G:Gm) (X:Int->Prop) (w:Int->Bool) (k:Int->Int):Prop where
 pick:∀v,0<=k v->X v/\G.own v=w v/\G.E v (k v)/\X (k v)/\w (k v)=w v
 dom:∀q,Dom (pickG G k) (Rg X w q) q (Rg X w q)
 yours:∀v u,X v->¬G.own v=w v->G.E v u->X u->w u=w v
theorem Sol.rg (h:Sol G X false W) (b:∀v,X v->(w v=false↔W v)) (q:Bool):Dom G X q (Rg X w q):=by
 cases q with
 |false=>exact h.mine.congr λv=>⟨λa=>⟨h.sub v a,(b v (h.sub v a)).2 a⟩,λa=>(b v a.1).1 a.2⟩
 |true=>exact h.yours.congr λv=>⟨λa=>⟨a.1,by
  cases c:w v with
  |true=>rfl
  |false=>exact absurd ((b v a.1).1 c) a.2⟩,λa=>⟨a.1,λd=>by
  have:=(b v a.1).2 d
  rw[a.2]at this
  cases this⟩⟩
theorem PInv.start (h:Sol G X false W) (c:∀v,X v->(w v=false↔W v)) (a:∀v,k v<0):PInv G X w k:=by
 refine⟨λv b=>absurd (a v) (by omega),λj=>((h.rg c j).self).congrG (λ_ _=>rfl) (λ_ _=>rfl) λv d _=>⟨λh=>h.1,λh=>⟨h,.inl (a v)⟩⟩,λv d b g f i=>?_⟩
 obtain⟨o,l,m,e,n⟩:=h.rg c (w v)
 exact(e v d ⟨b,rfl⟩ g f i).2
theorem PInv.ex (u:PInv G X w k){v:Int}(z:X v) (y:G.own v=w v) (x:k v<0):∃c,G.E v c/\X c/\w c=w v/\Dom (pickG G (updF k v c)) (Rg X w (w v)) (w v) (Rg X w (w v)):=by
 obtain⟨m,o,g,C,p⟩:=u.dom (w v)
 obtain⟨⟨r,_⟩,s,t⟩:=g v ⟨z,rfl⟩ y
 refine⟨m v,r,s,t,m,o,λf j i=>?_,λf E j i D A=>A,λl B=>p l λn=>?_⟩
 .obtain⟨⟨d,e⟩,b⟩:=g f j i
  refine⟨⟨d,?_⟩,b⟩
  unfold updF
  by_cases a:f=v
  .rw[if_pos a,a];exact .inr rfl
  .rw[if_neg a];exact e
 .obtain⟨d,⟨e,b⟩,q⟩:=B n
  refine⟨d,⟨e,?_⟩,q⟩
  unfold updF at b
  by_cases a:l n=v
  .rw[a];exact .inl x
  .rwa [if_neg a]at b
theorem PInv.step (d:PInv G X w k){v u:Int}(n:X v) (m:G.own v=w v) (g:G.E v u) (i:X u) (j:w u=w v) (l:Dom (pickG G (updF k v u)) (Rg X w (w v)) (w v) (Rg X w (w v))):PInv G X w (updF k v u):=by
 refine⟨λa c=>?_,λe=>?_,d.yours⟩
 .by_cases b:a=v
  .subst b
   have:updF k a u a=u:=if_pos rfl
   rw[this];exact⟨n,m,g,i,j⟩
  .have:updF k v u a=k a:=if_neg b
   rw[this]at c ⊢;exact d.pick a c
 .by_cases b:e=w v
  .subst b;exact l
  .refine(d.dom e).congrG (λ_ _=>rfl) (λ_ _=>rfl) λa o c=>?_
   have:a≠v:=λf=>b (by rw[← c.2,f])
   have:updF k v u a=k a:=if_neg this
   show _/\_↔_/\_
   rw[this]
theorem PInv.noDead (c:PInv G X w k) (x:NoDead G X){v u:Int}(r:G.E v u) (s:X u) (t:w u=w v) (q:Bool):NoDead (pickG G (updF k v u)) (Rg X w q):=λa ⟨e,b⟩=>by
 by_cases i:a=v
 .subst i;exact⟨u,⟨r,.inr (if_pos rfl)⟩,s,by rw[t,b]⟩
 .have j:updF k v u a=k a:=if_neg i
  by_cases d:G.own a=w a
  .obtain⟨y,_,m,_⟩:=c.dom q
   obtain⟨⟨n,o⟩,p⟩:=m a ⟨e,b⟩ (by show G.own a=q;rw[d,b])
   exact⟨y a,⟨n,by rw[j];exact o⟩,p⟩
  .obtain⟨l,f,g⟩:=x a e
   refine⟨l,⟨f,.inl ?_⟩,g,by rw[c.yours a l e d f g,b]⟩
   rw[j]
   apply zJ
   intro hn
   exact d (c.pick a (by omega)).2.1
inductive Rch (H:Gm) (Y:Int->Prop):Int->Int->Prop
 |refl {v:Int}:Y v->Rch H Y v v
 |step {v u x:Int}:Y v->H.E v u->Rch H Y u x->Rch H Y v x
def Loop (H:Gm) (Y:Int->Prop) (v:Int):Prop:=∃a,H.E v a/\Rch H Y a v
theorem Rch.fst {v x:Int}(h:Rch H Y v x):Y v:=by cases h <;> assumption
theorem Rch.lst {v x:Int}(h:Rch H Y v x):Y x:=by induction h with
 |refl h=>exact h
 |step _ _ _ a=>exact a
theorem Rch.snoc {v x y:Int}(h:Rch H Y v x) (a:H.E x y) (d:Y y):Rch H Y v y:=by induction h with
 |refl h=>exact .step h a (.refl d)
 |step b c _ e=>exact .step b c (e a)
theorem Rch.mono {H':Gm}{Y':Int->Prop}{v x:Int}(h:Rch H Y v x) (d:∀a,Y a->Y' a) (g:∀a b,Y a->Y b->H.E a b->H'.E a b):Rch H' Y' v x:=by induction h with
 |refl h=>exact .refl (d _ h)
 |step c e f i=>exact .step (d _ c) (g _ _ c f.fst e) i
theorem Loop.mono {H':Gm}{Y':Int->Prop}{v:Int}(h:Loop H Y v) (g:∀a,Y a->Y' a) (d:∀a b,Y a->Y b->H.E a b->H'.E a b):Loop H' Y' v:=by
 obtain⟨e,f,c⟩:=h
 exact⟨e,d v e c.lst c.fst f,c.mono g d⟩
theorem Rch.path {v x:Int}(h:Rch H Y v x):∃(m:Nat) (f:Nat->Int),f 0=v/\f m=x/\(∀a,a<m->H.E (f a) (f (a+1)))/\∀a,a<=m->Y (f a):=by induction h with
 | @refl v h=>exact⟨0,λ_=>v,rfl,rfl,λa b=>absurd b (Ao a),λ_ _=>h⟩
 | @step v l x i j _ k=>
  obtain⟨m,f,c,d,e,g⟩:=k
  refine⟨m+1,λa=>match a with | 0=>v | a+1=>f a,rfl,d,λa b=>?_,λa b=>?_⟩
  .cases a with
   |zero=>show H.E v (f 0);rw[c];exact j
   |succ a=>exact e a (by omega)
  .cases a with
   |zero=>exact i
   |succ a=>exact g a (by omega)
theorem Rch.ofPath {f:Nat->Int}(d:∀b,H.E (f b) (f (b+1))){a:Nat}(c:∀b,a<=b->Y (f b)) (m:Nat):Rch H Y (f a) (f (a+m)):=by induction m with
 |zero=>exact .refl (c a (by omega))
 |succ m e=>exact e.snoc (d _) (c _ (by omega))
def Io (S:Nat->Prop):Prop:=∀N,∃a,N<=a/\S a
theorem Io.val {f:Nat->Int}:∀(n:Nat){S:Nat->Prop},Io S->(∀a,S a->0<=f a/\f a<n)->∃v,Io λa=>S a/\f a=v:=by
 intro n
 induction n with
 |zero=>
  intro S d e
  obtain⟨a,_,b⟩:=d 0
  have:=e a b
  omega
 |succ n m=>
  intro S d e
  by_cases h:Io λa=>S a/\f a=(n:Int)
  .exact⟨n,h⟩
  .obtain⟨N,k⟩:=Ah.1 h
   obtain⟨v,l⟩:=m (S:=λa=>S a/\N<=a) (λM=>by
    obtain⟨a,g,c⟩:=d (max M N)
    exact⟨a,by omega,c,by omega⟩) (λa b=>by
    have:=e a b.1
    have:¬f a=(n:Int):=λi=>k ⟨a,b.2,b.1,i⟩
    omega)
   exact⟨v,λM=>by
    obtain⟨a,g,c,j⟩:=l M
    exact⟨a,g,c.1,j⟩⟩
theorem tt {f:Nat->Int}:∀(b:Nat) (N:Nat),(∀a,N<=a->0<=f a/\f a<b)->∃c,(∀N,∃n,N<=n/\f n=c)/\∃N,∀n,N<=n->f n<=c:=by
 intro b
 induction b with
 |zero=>
  intro N h
  have:=h N (by omega)
  omega
 |succ b i=>
  intro N h
  by_cases d:∀N,∃n,N<=n/\f n=(b:Int)
  .exact⟨b,d,N,λn hn=>by have:=h n hn;omega⟩
  .obtain⟨M,g⟩:=Ah.1 d
   refine i (max N M) λa j=>?_
   have:=h a (by omega)
   have:¬f a=(b:Int):=λe=>g ⟨a,by omega,e⟩
   omega
structure Ans (G:Gm) (X:Int->Prop) (w:Int->Bool) (k:Int->Int):Prop where
 mine:∀v,X v->G.own v=w v->0<=k v/\G.E v (k v)/\X (k v)/\w (k v)=w v
 free:∀v,X v->¬G.own v=w v->k v<0
 yours:∀v u,X v->¬G.own v=w v->G.E v u->X u->w u=w v
 noloop:∀v,X v->¬oddP (G.pri v)=w v->¬Loop (pickG G k) (λx=>Rg X w (w v) x/\G.pri x<=G.pri v) v
theorem Ans.wins (h:Ans G X w k){n b:Nat}(hX:∀v,X v->0<=v/\v<n) (hp:∀v,X v->0<=G.pri v/\G.pri v<b){q:Bool}{c:Nat->Int}(j:Play G q (Rg X w q) k c):Wins G q c:=by
 obtain⟨m,s,N,t⟩:=tt (f:=λn=>G.pri (c n)) b 0 λg _=>hp _ (j g).1.1
 refine⟨m,?_,s,N,t⟩
 apply zJ
 intro F
 obtain⟨v,z⟩:=Io.val (f:=c) n (S:=λg=>N<=g/\G.pri (c g)=m) (λM=>by
  obtain⟨g,L,E⟩:=s (max M N)
  exact⟨g,by omega,by omega,E⟩) (λg _=>hX _ (j g).1.1)
 obtain⟨d,_,⟨I,i⟩,l⟩:=z 0
 obtain⟨p,K,_,D⟩:=z (d+1)
 have i:G.pri (c d)=m:=i
 rw[l]at i
 have o:Rg X w q v:=by rw[← l];exact(j d).1
 have u:∀e,(pickG G k).E (c e) (c (e+1)):=λe=>by
  obtain⟨r,B,C⟩:=j e
  refine⟨B,?_⟩
  by_cases x:G.own (c e)=q
  .exact .inr (C x).symm
  .exact .inl (h.free _ r.1 (by rw[r.2];exact x))
 have y:=Rch.ofPath (H:=pickG G k) (Y:=λA=>Rg X w (w v) A/\G.pri A<=G.pri v) (f:=c) u (a:=d+1) (λe O=>⟨by rw[o.2];exact(j e).1,by rw[i];exact t e (by omega)⟩) (p-(d+1))
 rw[show d+1+(p-(d+1))=p from by omega,D]at y
 refine h.noloop v o.1 (by rw[o.2,i];exact F) ⟨c (d+1),?_,y⟩
 have:=u d
 rwa [l]at this
theorem Ans.dom (h:Ans G X w k){n b:Nat}(hX:∀v,X v->0<=v/\v<n) (hp:∀v,X v->0<=G.pri v/\G.pri v<b) (q:Bool):Dom G X q (Rg X w q):=by
 refine⟨k,λv a=>a.1,λv a c=>?_,λv l a c i d=>⟨d,?_⟩,λo j=>h.wins hX hp j⟩
 .obtain⟨m,e,f,g⟩:=h.mine v a.1 (by rw[c,a.2])
  exact⟨e,f,by rw[g,a.2]⟩
 .rw[h.yours v l a.1 (by rw[a.2];exact c) i d,a.2]
theorem Ans.sol (h:Ans G X w k){n b:Nat}(hX:∀v,X v->0<=v/\v<n) (hp:∀v,X v->0<=G.pri v/\G.pri v<b):Sol G X false (Rg X w false):=by
 refine⟨λv f=>f.1,h.dom hX hp false,(h.dom hX hp true).congr λv=>?_⟩
 constructor
 .rintro⟨a,c⟩
  exact⟨a,λe=>absurd (c.symm.trans e.2) (by decide)⟩
 .rintro⟨a,c⟩
  refine⟨a,?_⟩
  cases d:w v with
  |true=>rfl
  |false=>exact absurd ⟨a,d⟩ c
theorem PInv.ans (m:PInv G X w k) (x:∀v,X v->G.own v=w v->0<=k v):Ans G X w k:=by
 refine⟨λv q e=>⟨x v q e,(m.pick v (x v q e)).2.2⟩,λv q e=>?_,m.yours,λv q e hl=>?_⟩
 .apply zJ
  intro hn
  exact e (m.pick v (by omega)).2.1
 .obtain⟨Q,R,E,S,F⟩:=m.dom (w v)
  obtain⟨ae,n,o⟩:=hl
  obtain⟨P,T,U,W,V,Y⟩:=(Rch.step o.lst n o).path
  -- the loop has at least one step
  have ab:0<P\/True:= .inr trivial
  obtain⟨b,g,t,l,A,M⟩:=o.path
  let c:Nat->Int:=λa=>if a % (b+1)=0 then v else g (a % (b+1)-1)
  have j:∀a,a % (b+1)=0->c a=v:=λa u=>if_pos u
  have r:∀a,a % (b+1)≠0->c a=g (a % (b+1)-1):=λa u=>if_neg u
  have i:∀a,Rg X w (w v) (c a)/\G.pri (c a)<=G.pri v:=λa=>by
   by_cases d:a % (b+1)=0
   .rw[j a d];exact o.lst
   .rw[r a d]
    exact M _ (by have:=Nat.mod_lt a (show 0<b+1 by omega);omega)
  have B:∀a,(pickG G k).E (c a) (c (a+1)):=λa=>by
   have aa:=Nat.mod_lt a (show 0<b+1 by omega)
   have p:(a+1) % (b+1)=if a % (b+1)=b then 0 else a % (b+1)+1:=by
    rw[Nat.add_mod]
    by_cases d:a % (b+1)=b
    .rw[if_pos d,d]
     cases b with
     |zero=>simp
     |succ b=>rw[An (show 1<b+1+1 by omega),Nat.mod_self]
    .rw[if_neg d,An (show 1<b+1 by omega),An (by omega)]
   by_cases d:a % (b+1)=b
   .rw[if_pos d]at p
    rw[j (a+1) p]
    by_cases f:a % (b+1)=0
    .rw[j a f]
     have:b=0:=by omega
     subst this
     rw[← l,t]at n ⊢
     rw[t]at l
     rw[← l]at *
     exact n
    .rw[r a f,d,← l]
     have:=A (b-1) (by omega)
     rwa [show b-1+1=b from by omega]at this
   .rw[if_neg d]at p
    rw[r (a+1) (by omega),p]
    by_cases f:a % (b+1)=0
    .rw[j a f,f,Nat.zero_add,Nat.sub_self,t];exact n
    .rw[r a f]
     have:=A (a % (b+1)-1) (by omega)
     rwa [show a % (b+1)-1+1=a % (b+1)+1-1 from by omega]at this
  have O:Play (pickG G k) (w v) (Rg X w (w v)) Q c:=λa=>by
   refine⟨(i a).1,B a,λC=>?_⟩
   have e:G.own (c a)=w (c a):=by rw[(i a).1.2];exact C
   have Z:=x _ (i a).1.1 e
   have K:=(B a).2.resolve_left (by omega)
   have L:=(E _ (i a).1 C).1.2.resolve_left (by omega)
   rw[← K,← L]
  obtain⟨s,z,H,N,I⟩:=F c O
  obtain⟨a,ac,D⟩:=H N
  have ad:=(i a).2
  have y:=I ((b+1) * N) (by
   have:=Nat.le_mul_of_pos_left N (show 0<b+1 by omega)
   exact this)
  rw[j _ (Nat.mul_mod_right _ _)]at y
  have D:G.pri (c a)=s:=D
  have y:G.pri v<=s:=y
  have:s=G.pri v:=by omega
  rw[this]at z
  exact e z
theorem Sol.beside (h:Sol G X false W) (j:Sol H X false W') (g:∀v,X v->¬T v->H.own v=G.own v) (i:∀v,X v->¬T v->H.pri v=G.pri v) (d:∀v b,X v->¬T v->(H.E v b↔G.E v b)) (e:∀v b,X v->¬T v->G.E v b->X b/\¬T b) (v:Int) (a:X v) (f:¬T v):W v↔W' v:=by
 have k:=h.restrict (C:=λv=>X v/\¬T v) λv b a c=>e v b a.1 a.2 c
 have l:=j.restrict (C:=λv=>X v/\¬T v) λv b a c=>e v b a.1 a.2 ((d v b a.1 a.2).1 c)
 have m:=l.congrG (H:=G) (λv a=>(g v a.1 a.2.2).symm) (λv a=>(i v a.1 a.2.2).symm) (λv b a=>(d v b a.1 a.2.2).symm)
 have:=k.uniq m v
 exact⟨λh=>(this.1 ⟨h,a,f⟩).1,λh=>(this.2 ⟨h,a,f⟩).1⟩
end
end Go.Proofs.YtgbippnfaoedmaaGreatDoor.Par
namespace Go.Proofs.YtgbippnfaoedmaaGreatDoor
open Go Go.Wk Go.Proofs
section
open Classical
def pkL (k:VI) (v:Int):Int:=(idx k v).getD (-1)
theorem qm {k:VI}{v x:Int}(h:idx k v=some x):pkL k v=x:=by unfold pkL;rw[h];rfl
theorem nP {k k':VI}{v u:Int}(h:setI k v u=some k'):pkL k'=Par.updF (pkL k) v u:=by
 funext w
 unfold pkL Par.updF
 rw[bp h]
 by_cases a:w=v
 .rw[if_pos a,if_pos a];rfl
 .rw[if_neg a,if_neg a]
theorem kS {k:VI}{n:Nat}(d:k.length=n){v:Int}(b:0<=v) (c:v<n):idx k v=some (pkL k v):=by
 obtain⟨e,a⟩:=bg (xs:=k) b (by omega)
 rw[qm a];exact a
def Xn (n:Nat):Int->Prop:=λv=>0<=v/\v<n
theorem kT {a:Arena}{v:Int}(h:idx a.Next v=none):bm a v=[]:=by unfold bm;rw[h];rfl
section
variable {g:Parity}{n:Nat}(h:GOk g n)
include h
theorem xT {v u:Int}(a:(gI g).E v u):Xn n v/\Xn n u:=by
 have a:u∈bm g.Arena v:=a
 cases b:idx g.Arena.Next v with
 |none=>rw[kT b]at a;cases a
 |some c=>
  rw[c8 b]at a
  obtain⟨d,e⟩:=bu b
  have:=h.ln
  exact⟨⟨d,by omega⟩,(h.row v c b).2.2 u a⟩
theorem vR (P:VV){k:VI}(b:k.length=n):gS ⟨g.Arena.Owner,g.Prio,g.Arena.Next,P,k⟩=Par.pickG (gI g) (pkL k):=by
 unfold gS gI Par.pickG mkG
 dsimp only
 congr 1
 funext v u
 apply propext
 cases a:idx g.Arena.Next v with
 |none=>
  rw[kT a]
  unfold rowS
  dsimp only
  rw[a]
  simp
 |some e=>
  obtain⟨d,f⟩:=bu a
  have c:=kS b d (by have:=h.ln;omega)
  rw[c8 a,qw (x:=⟨g.Arena.Owner,g.Prio,g.Arena.Next,P,k⟩) a c,zV]
  unfold okE
  simp
end
theorem n9 {g:Parity}(hp:bC g=true):gD g.Arena=some g.Arena:=by
 obtain⟨l,m,n,o,i⟩:=eB hp
 unfold gD ja
 rw[appL (by rw[zS];omega) rfl,Af]
 obtain⟨b,d,e⟩:=ba (f:=dK g.Arena.Next) (λa b=>b=g.Arena.Next.take a) g.Arena.Next.length (s:=[]) rfl (λa b j k=>by
  subst k
  have c:g.Arena.Next[a]? =some g.Arena.Next[a]:=by simp[j]
  have:=i a _ c
  unfold dK
  rw[aS,c,Af,appL (by rw[zS];omega) rfl,Af,app1 (by rw[y8];omega) rfl]
  refine⟨_,rfl,?_⟩
  rw[Aa,c];rfl)
 rw[d,e,Ac,Af,aU,Af]
 rfl
theorem pX {g:Parity}{n:Nat}(hp:bC g=true) (hn:n=g.Prio.length){k:VI}(o:k.length=n):∃c,ju g.Arena k=some ⟨g.Arena.Owner,c⟩/\c.length=n/\∀v b,idx g.Arena.Next v=some b->idx c v=some (if 0<=pkL k v then[pkL k v] else b):=by
 have h:=GOk.of hp
 rw[← hn]at h
 unfold ju
 rw[n9 hp,Af,o]
 obtain⟨c,r,s,t⟩:=ba (f:=ft k) (λd (c:VV)=>c.length=n/\∀v b,idx g.Arena.Next v=some b->idx c v=some (if v<d/\0<=pkL k v then[pkL k v] else b)) n (s:=g.Arena.Next) ⟨h.ln,λv b e=>by
  have:=(bu e).1
  rw[if_neg (by omega)];exact e⟩ (λd c y ⟨x,q⟩=>by
  have u:=kS o (v:=(d:Int)) (by omega) (by omega)
  obtain⟨z,w⟩:=bg (xs:=c) (i:=(d:Int)) (by omega) (by omega)
  obtain⟨A,p,hl⟩:=bj (xs:=c) (i:=(d:Int)) [pkL k d] (by omega) (by omega)
  unfold ft
  rw[u,Af,w,Af,p,Af]
  by_cases l:0<=pkL k d
  .rw[decide_eq_true l,cond_true,Af]
   refine⟨_,rfl,by omega,λv b e=>?_⟩
   rw[bp p]
   by_cases m:v=d
   .subst m
    rw[if_pos rfl,if_pos ⟨by omega,l⟩]
   .rw[if_neg m,q v b e]
    by_cases a:0<=pkL k v
    .by_cases j:v<d
     .rw[if_pos ⟨j,a⟩,if_pos ⟨by omega,a⟩]
     .rw[if_neg (λh=>j h.1),if_neg (λh=>by have:=h.1;omega)]
    .rw[if_neg (λh=>a h.2),if_neg (λh=>a h.2)]
  .rw[decide_eq_false l,cond_false,Af]
   refine⟨_,rfl,x,λv b e=>?_⟩
   rw[q v b e]
   by_cases a:0<=pkL k v
   .by_cases j:v<d
    .rw[if_pos ⟨j,a⟩,if_pos ⟨by omega,a⟩]
    .have:v≠d:=λm=>l (m ▸ a)
     rw[if_neg (λh=>j h.1),if_neg (λh=>by have:=h.1;omega)]
   .rw[if_neg (λh=>a h.2),if_neg (λh=>a h.2)])
 rw[r,Af,aU]
 refine⟨c,rfl,s,λv b e=>?_⟩
 rw[t v b e]
 have:=(bu e).2
 have:=h.ln
 by_cases a:0<=pkL k v
 .rw[if_pos ⟨by omega,a⟩,if_pos a]
 .rw[if_neg (λh=>a h.2),if_neg a]
theorem wn {g:Parity}{n:Nat}(hp:bC g=true) (hn:n=g.Prio.length){k:VI}(t:k.length=n) (q:∀v,0<=pkL k v->(gI g).E v (pkL k v)):∃p,km g k=some p/\GOk p n/\gI p=Par.pickG (gI g) (pkL k):=by
 have h:=GOk.of hp
 rw[← hn]at h
 obtain⟨o,w,x,s⟩:=pX hp hn t
 unfold km
 rw[w,Af,appL (by rw[zS];have:=h.n256;omega) rfl,Af]
 have r:∀v e,idx o v=some e->∃c,idx g.Arena.Next v=some c/\e=if 0<=pkL k v then[pkL k v] else c:=λv e d=>by
  obtain⟨z,A⟩:=bu d
  obtain⟨c,b⟩:=bg (xs:=g.Arena.Next) (i:=v) z (by have:=h.ln;omega)
  refine⟨c,b,?_⟩
  rw[s v c b]at d
  exact(zt d).symm
 refine⟨_,rfl,⟨h.n256,h.lo,h.lp,x,h.ow,λv e d=>?_,h.pri⟩,?_⟩
 .obtain⟨c,b,j⟩:=r v e d
  by_cases f:0<=pkL k v
  .rw[if_pos f]at j
   have m:pkL k v∈bm g.Arena v:=q v f
   rw[c8 b]at m
   subst j
   refine⟨by simp,by simp,λy l=>?_⟩
   rw[yw]at l
   subst l
   exact(h.row v c b).2.2 _ m
  .rw[if_neg f]at j
   subst j
   exact h.row v e b
 .unfold gI Par.pickG mkG
  dsimp only
  congr 1
  funext v y
  apply propext
  cases b:idx g.Arena.Next v with
  |none=>
   have:idx o v=none:=by
    cases u:idx o v with
    |none=>rfl
    |some e=>
     obtain⟨c,d,_⟩:=r v e u
     rw[b]at d;cases d
   rw[kT b,kT (a:=⟨g.Arena.Owner,o⟩) this]
   simp
  |some c=>
   rw[c8 b,c8 (a:=⟨g.Arena.Owner,o⟩) (s v c b)]
   by_cases f:0<=pkL k v
   .rw[if_pos f,yw]
    have m:pkL k v∈bm g.Arena v:=q v f
    rw[c8 b]at m
    constructor
    .intro j;subst j;exact⟨m,.inr rfl⟩
    .rintro⟨_,h|h⟩
     .omega
     .exact h.symm
   .rw[if_neg f]
    exact⟨λl=>⟨l,.inl (by omega)⟩,λl=>l.1⟩
theorem wE {x:l7Game}{n:Nat}(j:WfS x n) (hp:PriOk x.prio){B:VB}(e:B.length=n) (k:Aq (gS x) (In B)) (q:Bool):jI x B (b2i q)=some (decide (Ap (gS x) (In B) q (In B))):=by
 have hn:=j.n256
 obtain⟨R,t,z,u⟩:=wS j hp n B (2 ^ 64) e k (by have:=mI B;omega) (by omega)
 unfold jI
 rw[t,Af]
 have l:=Par.hold_iff (q:=q) u
 have s:=jp (f:=fX B (b2i q) R) (r:=false) (λa c=> !(c&&(decide (In R (a:Int)) != !q))) (xs:=B) (n:=B.length) rfl (λa c g=>by
  have y:=(yo.1 g).1
  unfold fX
  rw[aS,g,Af,cd (B:=R) (by omega) (by omega),Af,lM]
  cases c <;> cases(decide (In R (a:Int)) != !q) <;> rfl)
 rw[s,Af]
 have:(B.zipIdx.all λp=> !(p.1&&(decide (In R (p.2:Int)) != !q)))=decide (Ap (gS x) (In B) q (In B)):=by
  rw[zE,decide_eq_true_iff,← l,zL]
  constructor
  .intro ha v d
   obtain⟨w,A⟩:=ii e d
   obtain⟨a,m⟩:=bA w
   subst m
   have i:idx B (a:Int)=some true:=d
   rw[aS]at i
   have:=ha (true,a) (by rw[zY];exact i)
   dsimp only at this
   by_cases b:In R (a:Int)
   .rw[decide_eq_true b]at this
    cases q with
    |true=>simp at this
    |false=>exact⟨λ_=>rfl,λ_=>b⟩
   .rw[decide_eq_false b]at this
    cases q with
    |true=>exact⟨λh=>absurd h b,λh=>absurd h (by decide)⟩
    |false=>simp at this
  .rintro o ⟨c,a⟩ hp
   rw[zY]at hp
   dsimp only at hp ⊢
   cases c with
   |false=>rfl
   |true=>
    have d:In B (a:Int):=by unfold In;rw[aS];exact hp
    have:=o _ d
    by_cases b:In R (a:Int)
    .rw[decide_eq_true b,this.1 b];rfl
    .rw[decide_eq_false b]
     cases q with
     |true=>rfl
     |false=>exact absurd (this.2 rfl) b
 rw[this]
 cases decide (Ap (gS x) (In B) q (In B)) <;> rfl
end
section
open Classical
noncomputable def wB (W:Int->Prop) (v:Int):Bool:=decide (¬W v)
theorem si {W:Int->Prop}{v:Int}:wB W v=false↔W v:=by unfold wB;simp
theorem iW {n:Nat}{W:Int->Prop}{v:Int}(h:Xn n v):idx (wonL n W) v=some (b2i (wB W v)):=by
 obtain⟨a,c⟩:=h
 obtain⟨d,b⟩:=bA a
 subst b
 rw[aS,sj (by omega)];rfl
theorem mZ {k:Int->Int}{v a b:Int}:Par.updF (Par.updF k v a) v b=Par.updF k v b:=by
 funext x
 unfold Par.updF
 by_cases c:x=v
 .rw[if_pos c,if_pos c]
 .rw[if_neg c,if_neg c,if_neg c]
theorem pR {k:Int->Int}{v a:Int}(h:k v=a):Par.updF k v a=k:=by
 funext x
 unfold Par.updF
 by_cases b:x=v
 .rw[if_pos b,b,h]
 .rw[if_neg b]
theorem tC {a b:VI}{n:Nat}(ha:a.length=n) (f:b.length=n) (h:pkL a=pkL b):a=b:=by
 apply yS
 intro c
 by_cases g:c<n
 .have d:=kS ha (v:=(c:Int)) (by omega) (by omega)
  have e:=kS f (v:=(c:Int)) (by omega) (by omega)
  rw[aS]at d e
  rw[d,e,h]
 .rw[Ak (by omega),Ak (by omega)]
theorem rf {C:Int->Prop}:∀{row:VI},(∃u,u∈row/\C u)->∃(i:Nat) (u:Int),row[i]? =some u/\C u/\∀(j:Nat) a,j<i->row[j]? =some a->¬C a
 | [],h=>by obtain⟨u,c,_⟩:=h;cases c
 |x::r,h=>by
  by_cases d:C x
  .exact⟨0,x,rfl,d,λj a f=>absurd f (Ao j)⟩
  .obtain⟨i,u,k,l,m⟩:=rf (C:=C) (row:=r) (by
    obtain⟨u,c,e⟩:=h
    rcases List.mem_cons.1 c with b|b
    .subst b;exact absurd e d
    .exact⟨u,b,e⟩)
   refine⟨i+1,u,by simpa using k,l,λj a f g=>?_⟩
   cases j with
   |zero=>
    have:x=a:=by simpa using g
    subst this;exact d
   |succ j=>exact m j a (by omega) (by simpa using g)
theorem kR {g:Parity}{n:Nat}(h:GOk g n){v:Int}(b:Xn n v):idx g.Arena.Owner v=some (b2i ((gI g).own v)):=by
 obtain⟨c,a⟩:=bg (xs:=g.Arena.Owner) (i:=v) b.1 (by have:=h.lo;have:=b.2;omega)
 rw[a]
 show _=some (b2i (ownL g.Arena.Owner v))
 unfold ownL
 rw[a]
 rcases h.ow v c a with rfl|rfl <;> rfl
end
section
open Classical
theorem r9 {n:Nat}{W:Int->Prop}(hn:n<=256) (q:Bool):∃B,dT (wonL n W) (b2i q)=some B/\B.length=n/\In B=Par.Rg (Xn n) (wB W) q:=by
 have hl:=iX n W
 unfold dT
 rw[hl,bL (by omega) rfl,Af]
 obtain⟨c,d,e,g⟩:=fillB (f:=eH (wonL n W) (b2i q)) (Par.Rg (Xn n) (wB W) q) n (s0:=zf n false) (by simp) (λa c j k=>by
  have b:Xn n (a:Int):=⟨by omega,by omega⟩
  unfold eH
  rw[iW b,Af,kJ]
  have:(wB W (a:Int)==q)=decide (Par.Rg (Xn n) (wB W) q (a:Int)):=by
   rw[zE,decide_eq_true_iff]
   unfold Par.Rg
   simp[b]
  rw[this]) (λv i=>i.1)
 rw[d,Af,aU]
 exact⟨c,rfl,e,funext λv=>propext (g v)⟩
theorem uG {n:Nat}{W:Int->Prop}(hn:n<=256) (p:VI) (q:Bool):∃g,iE ⟨wonL n W,p⟩ (b2i q)=some g/\g.length<=n/\(∀v,v∈g↔Par.Rg (Xn n) (wB W) q v):=by
 have hl:=iX n W
 unfold iE
 dsimp only
 rw[hl,decide_eq_false (by omega),cond_false]
 obtain⟨d,a,e,l⟩:=ba (f:=ei ⟨wonL n W,p⟩ (b2i q)) (λb (d:VI)=>d.length<=b/\∀v,v∈d↔Par.Rg (Xn n) (wB W) q v/\v<b) n (s:=[]) ⟨by simp,λv=>⟨λh=>absurd h (by simp),λh=>by have:=h.1.1.1;omega⟩⟩ (λb d m ⟨o,k⟩=>by
  have j:Xn n (b:Int):=⟨by omega,by omega⟩
  unfold ei
  dsimp only
  rw[iW j,Af,kJ,app1 (by omega) rfl]
  cases c:(wB W (b:Int)==q) with
  |true=>
   have c:wB W (b:Int)=q:=by simpa using c
   refine⟨_,rfl,by simp;omega,λv=>?_⟩
   rw[yu,k,yw]
   constructor
   .rintro(⟨a,e⟩|rfl)
    .exact⟨a,by omega⟩
    .exact⟨⟨j,c⟩,by omega⟩
   .rintro⟨a,e⟩
    by_cases i:v=b
    .exact .inr i
    .exact .inl ⟨a,by omega⟩
  |false=>
   have c:¬wB W (b:Int)=q:=by simpa using c
   refine⟨_,rfl,by omega,λv=>?_⟩
   rw[k]
   constructor
   .rintro⟨a,e⟩
    exact⟨a,by omega⟩
   .rintro⟨a,e⟩
    have:v≠b:=λi=>c (by rw[← i];exact a.2)
    exact⟨a,by omega⟩)
 rw[a,Af,aU]
 exact⟨d,rfl,e,λv=>by rw[l];exact⟨λh=>h.1,λh=>⟨h,h.1.2⟩⟩⟩
section
variable {g:Parity}{n:Nat}(hp:bC g=true) (hn:n=g.Prio.length){W:Int->Prop}(hW:Ar (gI g) (Xn n) false W)
include hp hn hW
omit hW in
theorem xS {P:VV}(U:PrevT g.Arena.Next n n P){k:VI}(X:k.length=n) (S:Par.PInv (gI g) (Xn n) (wB W) (pkL k)){v:Int}(c:Xn n v) (ab:(gI g).own v=wB W v){row:VI}(s:idx g.Arena.Next v=some row){i:Nat}{u:Int}(d:row[i]? =some u)
 (E:wB W u=wB W v/\Ap (Par.pickG (gI g) (Par.updF (pkL k) v u)) (Par.Rg (Xn n) (wB W) (wB W v)) (wB W v) (Par.Rg (Xn n) (wB W) (wB W v)))
 (O:∀(j:Nat) y,j<i->row[j]? =some y->¬(wB W y=wB W v/\Ap (Par.pickG (gI g) (Par.updF (pkL k) v y)) (Par.Rg (Xn n) (wB W) (wB W v)) (wB W v) (Par.Rg (Xn n) (wB W) (wB W v))))
 {B:VB} (Q:B.length=n) (q:In B=Par.Rg (Xn n) (wB W) (wB W v)):
 ∃k',kE ⟨g.Arena.Owner,g.Prio,g.Arena.Next,P,k⟩ B v=some (u,k')/\k'.length=n/\pkL k'=Par.updF (pkL k) v u:=by
 have h:=GOk.of hp
 rw[← hn]at h
 have Z:Aq (gI g) (Xn n):=eN h (gp hp)
 obtain⟨ap,aq,af⟩:=h.row v row s
 have ak:=(yo.1 d).1
 have al:=h.n256
 unfold kE
 obtain⟨ae,ah,t⟩:=bI (f:=g9 ⟨g.Arena.Owner,g.Prio,g.Arena.Next,P,k⟩ B v) (λj (a:Int×VI)=>a.1=(j:Int)/\j<=i/\a.2.length=n/\∃w,pkL a.2=Par.updF (pkL k) v w) (λ(a:Int×VI)=>a.1=u/\a.2.length=n/\pkL a.2=Par.updF (pkL k) v u) (λ_=>False) i (λj a ⟨x,aj,z,w,o⟩=>by
  obtain⟨an,a⟩:=a
  dsimp only at x z o
  subst x
  have V:j<row.length:=by omega
  have b:row[j]? =some row[j]:=nx V
  generalize row[j]=y at b
  obtain⟨N,ai⟩:=af y (ze b)
  have M:Xn n y:=⟨N,ai⟩
  have ad:(gI g).E v y:=by show y∈bm g.Arena v;rw[c8 s];exact ze b
  unfold g9
  dsimp only
  rw[s,Af,decide_eq_true (show(j:Int)<(row.length:Int) by omega),cond_true,Af,aS,b,Af,cd (B:=B) N (by omega),Af]
  have R:decide (In B y)=(wB W y==wB W v):=by
   rw[zE,decide_eq_true_iff,q]
   unfold Par.Rg
   simp[M]
  have K:zr .i64 ((j:Int)+1)=((j+1:Nat):Int):=by rw[wr' (by omega) (by omega)];omega
  rw[R]
  cases F:(wB W y==wB W v) with
  |false=>
   simp only[zF,cond_true,K]
   have aa:¬wB W y=wB W v:=by simpa using F
   have:j≠i:=λp=>by subst p;rw[d]at b;cases b;exact aa E.1
   exact⟨_,rfl,by omega,rfl,by omega,z,w,o⟩
  |true=>
   have L:wB W y=wB W v:=by simpa using F
   obtain⟨ao,ac⟩:=bg (xs:=a) (i:=v) c.1 (by have:=c.2;omega)
   obtain⟨m,I,am⟩:=bj (xs:=a) (i:=v) y c.1 (by have:=c.2;omega)
   have r:pkL m=Par.updF (pkL k) v y:=by rw[nP I,o,mZ]
   have l:m.length=n:=by omega
   have G:gS ⟨g.Arena.Owner,g.Prio,g.Arena.Next,P,m⟩=Par.pickG (gI g) (Par.updF (pkL k) v y):=by rw[vR h P l,r]
   have T:Aq (gS ⟨g.Arena.Owner,g.Prio,g.Arena.Next,P,m⟩) (In B):=by
    rw[G,q]
    exact S.noDead Z ad M L _
   have H:=wE (h.wfS U l) h.pri Q T (wB W v)
   rw[G,q]at H
   simp only[zG,cond_false]
   rw[ac,Af,I,Af,kR h c,ab,Af,H,Af]
   by_cases e:Ap (Par.pickG (gI g) (Par.updF (pkL k) v y)) (Par.Rg (Xn n) (wB W) (wB W v)) (wB W v) (Par.Rg (Xn n) (wB W) (wB W v))
   .rw[decide_eq_true e,cond_true]
    have:¬j<i:=λY=>O j y Y b ⟨L,e⟩
    have:j=i:=by omega
    subst this
    rw[d]at b;cases b
    exact⟨_,rfl,rfl,l,r⟩
   .rw[decide_eq_false e,cond_false,K]
    have:j≠i:=λp=>by subst p;rw[d]at b;cases b;exact e E.2
    exact⟨_,rfl,by omega,rfl,by omega,l,y,r⟩) (2 ^ 64) 0 (0,k) (by omega) ⟨rfl,by omega,X,pkL k v,(pR rfl).symm⟩ (by omega)
 match ae,t with
 |.inl a,t=>
  obtain⟨A,C,D⟩:=t
  obtain⟨ar,ag⟩:=a
  dsimp only at A C D
  subst A
  rw[ah,Af,pS]
  exact⟨ag,rfl,C,D⟩
omit hW in
theorem xn {k:VI}(aq:k.length=n) (P:Par.PInv (gI g) (Xn n) (wB W) (pkL k)){v:Int}(l:Xn n v) (ar:pkL k v= -1){row:VI}(S:idx g.Arena.Next v=some row){i:Nat}{u:Int}(z:row[i]? =some u)
 (N:wB W u=wB W v/\Ap (Par.pickG (gI g) (Par.updF (pkL k) v u)) (Par.Rg (Xn n) (wB W) (wB W v)) (wB W v) (Par.Rg (Xn n) (wB W) (wB W v)))
 (aj:∀(j:Nat) y,j<i->row[j]? =some y->¬(wB W y=wB W v/\Ap (Par.pickG (gI g) (Par.updF (pkL k) v y)) (Par.Rg (Xn n) (wB W) (wB W v)) (wB W v) (Par.Rg (Xn n) (wB W) (wB W v))))
 {L:VI} (A:∀e,e∈L↔Par.Rg (Xn n) (wB W) (wB W v) e):
 ∃k',cntM (du g (wonL n W) v L row) row.length 0 k=some (.inr k')/\k'.length=n/\pkL k'=Par.updF (pkL k) v u:=by
 have h:=GOk.of hp
 rw[← hn]at h
 have aw:Aq (gI g) (Xn n):=eN h (gp hp)
 obtain⟨aY,aZ,aH⟩:=h.row v row S
 have aQ:=(yo.1 z).1
 have aT:=h.n256
 have Q:(λe=>e∈L)=Par.Rg (Xn n) (wB W) (wB W v):=funext λe=>propext (A e)
 obtain⟨aE,aJ,p⟩:=lP (f:=du g (wonL n W) v L row) (λj (d:VI)=>j<=i/\d.length=n/\pkL d=pkL k) (λ_=>False) (λ(d:VI)=>d.length=n/\pkL d=Par.updF (pkL k) v u) row.length (s:=k) ⟨by omega,aq,rfl⟩ (λj d ap ⟨aN,ab,I⟩=>by
  have c:row[j]? =some row[j]:=nx ap
  generalize row[j]=y at c
  obtain⟨aL,aM⟩:=aH y (ze c)
  have Z:Xn n y:=⟨aL,aM⟩
  have Y:(gI g).E v y:=by show y∈bm g.Arena v;rw[c8 S];exact ze c
  unfold du
  rw[aS,c,Af,iW Z,Af,iW l,Af]
  have an:(b2i (wB W y) !=b2i (wB W v))= !(wB W y==wB W v):=by unfold bne;rw[kJ]
  rw[an]
  cases R:(wB W y==wB W v) with
  |false=>
   simp only[zF,cond_true]
   have ax:¬wB W y=wB W v:=by simpa using R
   have:j≠i:=λb=>by subst b;rw[z]at c;cases c;exact ax N.1
   exact⟨_,rfl,by omega,ab,I⟩
  |true=>
   have X:wB W y=wB W v:=by simpa using R
   obtain⟨aW,ay⟩:=bg (xs:=d) (i:=v) l.1 (by have:=l.2;omega)
   obtain⟨D,T,aU⟩:=bj (xs:=d) (i:=v) y l.1 (by have:=l.2;omega)
   obtain⟨aX,az⟩:=bg (xs:=D) (i:=v) l.1 (by have:=l.2;omega)
   obtain⟨aI,U,aV⟩:=bj (xs:=D) (i:=v) (-1) l.1 (by have:=l.2;omega)
   have C:pkL D=Par.updF (pkL k) v y:=by rw[nP T,I]
   have aA:pkL aI=pkL k:=by rw[nP U,C,mZ,pR ar]
   have V:D.length=n:=by omega
   obtain⟨ah,ae,af,E⟩:=wn hp hn V (λa m=>by
    rw[C]at m ⊢
    unfold Par.updF at m ⊢
    by_cases b:a=v
    .rw[if_pos b];subst b;exact Y
    .rw[if_neg b]at m ⊢
     exact(P.pick a m).2.2.1)
   rw[C]at E
   have al:Aq (gI ah) (λe=>e∈L):=by
    rw[E,Q]
    exact P.noDead aw Y Z X _
   obtain⟨r,O,W',ag,G,K,M,aO,aP⟩:=oS af (L:=L) (λe aB=>((A e).1 aB).1) al
   rw[E,Q]at G
   have ao:=Par.hold_iff (q:=wB W v) G
   simp only[zG,cond_false]
   rw[ay,Af,T,Af,ae,Af,ag,Af,Af]
   dsimp only
   have aD:(bif !wB W v then((O.length:Int)==0) else((r.length:Int)==0))=decide (Ap (Par.pickG (gI g) (Par.updF (pkL k) v y)) (Par.Rg (Xn n) (wB W) (wB W v)) (wB W v) (Par.Rg (Xn n) (wB W) (wB W v))):=by
    rw[zE,decide_eq_true_iff,← ao]
    cases H:wB W v with
    |false=>
     simp only[zF,cond_true]
     rw[show(((O.length:Int)==0)=true)↔O=[] from by simp]
     constructor
     .intro b a m
      refine⟨λ_=>trivial,λ_=>?_⟩
      apply zJ
      intro av
      have:=(M a).2 ⟨(A a).2 (by rw[H];exact m),av⟩
      rw[b]at this;cases this
     .intro ha
      cases am:O with
      |nil=>rfl
      |cons a q=>
       obtain⟨x,ac⟩:=(M a).1 (by rw[am];exact zU ..)
       exact absurd ((ha a (by have:=(A a).1 x;rwa [H]at this)).2 trivial) ac
    |true=>
     simp only[zG,cond_false]
     rw[show(((r.length:Int)==0)=true)↔r=[] from by simp]
     constructor
     .intro b a m
      refine⟨λaC=>?_,λai=>absurd ai (by decide)⟩
      have:=(K a).2 aC
      rw[b]at this;cases this
     .intro ha
      cases ak:r with
      |nil=>rfl
      |cons a q=>
       have x:=(K a).1 (by rw[ak];exact zU ..)
       have:=(ha a (by have:=G.sub a x;rwa [H]at this)).1 x
       cases this
   have ad:∀(t w o:Bool) {aa:Type} (F:Bool->Option aa),(zm (bif (b2i o==0) then some t else some false) λaF=>zm (bif aF then some true else zm (some (b2i o)) λaK=>zm (bif (aK==1) then some w else some false) λaG=>some aG) F)=F (bif !o then t else w):=by
    intro t w o aa F
    cases o <;> cases t <;> cases w <;> rfl
   rw[ad,aD]
   by_cases B:Ap (Par.pickG (gI g) (Par.updF (pkL k) v y)) (Par.Rg (Xn n) (wB W) (wB W v)) (wB W v) (Par.Rg (Xn n) (wB W) (wB W v))
   .rw[decide_eq_true B,cond_true]
    have:¬j<i:=λau=>aj j y au c ⟨X,B⟩
    have:j=i:=by omega
    subst this
    rw[z]at c;cases c
    exact⟨_,rfl,V,C⟩
   .rw[decide_eq_false B,cond_false,az,Af,U,Af]
    have:j≠i:=λb=>by subst b;rw[z]at c;cases c;exact B N.2
    exact⟨_,rfl,by omega,by omega,aA⟩)
 match aE,p with
 |.inr d,p=>
  rcases p with ⟨aR,_⟩|p
  .omega
  .exact⟨d,aJ,p.1,p.2⟩
omit hp hn hW in
theorem lD {n:Nat}(v:Int):pkL (zf n (-1)) v= -1:=by
 unfold pkL
 cases h:idx (zf n (-1:Int)) v with
 |none=>rfl
 |some c=>
  obtain⟨a,b⟩:=bu h
  rw[dE a,zP]at h
  split at h
  .cases h;rfl
  .cases h
omit hW in
theorem sB {A:VI}(j:gA g=some A) (z:A.length<=256):iM g (zf n (-1))=some true:=by
 have h:=GOk.of hp
 rw[← hn]at h
 obtain⟨u,v,w,x,y⟩:=eB hp
 have k:kx g (zf n (-1))=some (g,true):=by
  unfold kx
  rw[jk,hp,Af]
  have l:jM g (zf n (-1))=some true:=by
   unfold jM
   rw[yZ,← hn]
   have:=jo (f:=fY g (zf n (-1))) (r:=false) (λ_:Int=>true) (xs:=zf n (-1)) (n:=n) (by simp) (λt d a=>by
    unfold fY
    have s:d= -1:=by
     rw[zP]at a
     split at a
     .cases a;rfl
     .cases a
    rw[aS,a,Af,s];rfl)
   rw[this]
   simp only[bne_self_eq_false,cond_false,zL,implies_true,if_true,Af,aU]
  rw[l]
  simp only[zG,cond_false,Af]
  rw[qC (by have:=h.lo;have:=h.n256;omega),Af,qC (by omega),Af,yZ]
  obtain⟨c,e,i⟩:=ba (f:=gY g (zf n (-1))) (λb (c:VV)=>c=g.Arena.Next.take b) n (s:=[]) rfl (λb c o q=>by
   subst q
   have a:g.Arena.Next[b]? =some (g.Arena.Next[b]'(by have:=h.ln;omega)):=nx (by have:=h.ln;omega)
   generalize g.Arena.Next[b]'(by have:=h.ln;omega)=row at a
   obtain⟨B,_,_⟩:=h.row (b:Int) row (by rw[aS];exact a)
   have p:idx (zf n (-1:Int)) (b:Int)=some (-1):=by rw[aS,zP,if_pos o]
   unfold gY
   rw[aS,a,Af,qC (by omega),Af,p,Af]
   simp only[show decide ((0:Int)<= -1)=false from rfl,cond_false,Af]
   rw[app1 (by rw[y8];omega) rfl,Af]
   refine⟨_,rfl,?_⟩
   rw[Aa,a];rfl)
  rw[e,i,Af,aU,List.take_of_length_le (by have:=h.ln;omega)]
 unfold iM
 rw[k,Af]
 dsimp only
 rw[cond_true,j,Af,Af]
 have m:kF A A=some true:=by
  unfold kF
  have:=jo (f:=hU A A) (r:=false) (λ_:Int=>true) (xs:=A) (n:=A.length) rfl (λt d a=>by
   unfold hU
   rw[aS,a,Af,Af]
   simp)
  rw[this]
  simp only[bne_self_eq_false,cond_false,zL,implies_true,if_true,Af,aU]
 rw[m];rfl
theorem ta (S:gA g=some (wonL n W)):∃k,iN g (zf n (-1))=some (⟨wonL n W,k⟩,true)/\iI g (zf n (-1)) (wonL n W)=some ⟨wonL n W,k⟩/\k.length=n/\(∀v i,idx k v=some i->i= -1\/0<=i)/\Par.Ans (gI g) (Xn n) (wB W) (pkL k):=by
 have h:=GOk.of hp
 rw[← hn]at h
 have I:=h.n256
 have ar:=iX n W
 obtain⟨P,aB,aC⟩:=tL h
 obtain⟨B0,D,Y,Z⟩:=r9 (W:=W) I false
 obtain⟨B1,E,aa,ab⟩:=r9 (W:=W) I true
 have D:dT (wonL n W) 0=some B0:=D
 have E:dT (wonL n W) 1=some B1:=E
 unfold iN iI
 rw[sB hp hn S (by omega),Af,S,aB,yZ,appL (by simp;omega) rfl]
 simp only[zG,cond_false,Af,zz,yZ,ar]
 obtain⟨aO,ac,ad⟩:=ba (f:=eD g (zf n (-1)) (wonL n W)) (λb (c:VI)=>c=zf n (-1)) n (s:=zf n (-1)) rfl (λb c x y=>by
  subst y
  have ao:idx (zf n (-1:Int)) (b:Int)=some (-1):=by rw[aS,zP,if_pos x]
  unfold eD
  rw[ao]
  simp only[Af,show((-1:Int) != -1)=false from rfl,cond_false]
  rw[vp (by simp;omega),Af]
  refine⟨_,rfl,?_⟩
  apply yS
  intro l
  rw[List.getElem?_set]
  simp only[zP,yZ]
  split
  .rename_i e;subst e;rw[if_pos x]
  .rfl)
 subst ad
 rw[ac,Af,aU,D,Af,E,Af]
 obtain⟨c,A,ae,af,rfl,ag,ah,aJ,ai,aj⟩:=vK (f:=eF g (wonL n W) ⟨g.Arena.Owner,g.Prio,g.Arena.Next,P,zf n (-1)⟩ B0 B1) (g:=en g (wonL n W)) (λb (c A:VI)=>c=A/\c.length=n/\Par.PInv (gI g) (Xn n) (wB W) (pkL c)/\(∀l:Nat,b<=l->pkL c l= -1)/\(∀v,Xn n v->v<b->(gI g).own v=wB W v->0<=pkL c v)/\(∀v i,idx c v=some i->i= -1\/0<=i)) n (s:=zf n (-1)) (t:=zf n (-1)) ⟨rfl,by simp,Par.PInv.start hW (λv _=>si) (λv=>by rw[lD];decide),λl _=>lD _,λv d x=>by have:=d.1;omega,λv i p=> .inl (by rw[← qm p];exact lD v)⟩ (λb c A x ⟨e,r,s,t,O,Q⟩=>by
  subst e
  have d:Xn n (b:Int):=⟨by omega,by omega⟩
  have T:=kS r d.1 d.2
  rw[t b (yE b)]at T
  unfold eF en
  rw[T,iW d,kR h d]
  simp only[Af,show decide ((0:Int)<= -1)=false from rfl,cond_false]
  by_cases m:(gI g).own (b:Int)=wB W (b:Int)
  · -- a pick
    obtain⟨X,u⟩:=bg (xs:=g.Arena.Next) (i:=(b:Int)) (by omega) (by have:=h.ln;omega)
    obtain⟨j,aD,aP,aE,aF⟩:=s.ex d m (by rw[t b (yE b)];decide)
    obtain⟨l,j,H,w,R⟩:=rf (row:=X) (C:=λj=>wB W j=wB W (b:Int)/\Ap (Par.pickG (gI g) (Par.updF (pkL c) b j)) (Par.Rg (Xn n) (wB W) (wB W b)) (wB W b) (Par.Rg (Xn n) (wB W) (wB W b))) ⟨j,by have:j∈bm g.Arena b:=aD;rwa [c8 u]at this,aE,aF⟩
    have U:(gI g).E (b:Int) j:=by show j∈bm g.Arena b;rw[c8 u];exact ze H
    have K:=(xT h U).2
    obtain⟨aI,aw,aM,ax⟩:=uG (W:=W) I [] (wB W (b:Int))
    obtain⟨B,ak,al,am⟩:∃B,(bif (b2i (wB W (b:Int))==1) then some B1 else some B0)=some B/\B.length=n/\In B=Par.Rg (Xn n) (wB W) (wB W b):=by
     cases aK:wB W (b:Int) with
     |true=>exact⟨B1,rfl,aa,ab⟩
     |false=>exact⟨B0,rfl,Y,Z⟩
    obtain⟨k',av,N,q⟩:=xS hp hn aC r s d m u H w R al am
    obtain⟨z,ay,az,aA⟩:=xn hp hn r s d (t b (yE b)) u H w R ax
    have:z=k':=tC az N (by rw[aA,q])
    subst this
    obtain⟨aN,ap⟩:=bg (xs:=z) (i:=(b:Int)) (by omega) (by omega)
    obtain⟨aH,V,aL⟩:=bj (xs:=z) (i:=(b:Int)) j (by omega) (by omega)
    have:aH=z:=tC (n:=n) (by omega) N (by rw[nP V,q,mZ])
    subst this
    have F:(b2i (wB W (b:Int)) !=b2i ((gI g).own (b:Int)))=false:=by rw[m];simp
    have G:(b2i ((gI g).own (b:Int)) !=b2i (wB W (b:Int)))=false:=by rw[m];simp
    rw[F,G,cond_false,cond_false,Af,cond_false,ak,Af,av,Af]
    dsimp only
    rw[ap,Af,V,Af,aw,Af,u,Af,ay,Af,aU]
    refine⟨_,_,rfl,rfl,rfl,N,?_,λM an=>?_,λv L aq o=>?_,λv i p=>?_⟩
    .rw[q];exact s.step d m U K w.1 w.2
    .rw[q]
     unfold Par.updF
     rw[if_neg (by omega)]
     exact t M (by omega)
    .rw[q]
     unfold Par.updF
     by_cases e:v=b
     .rw[if_pos e];exact K.1
     .rw[if_neg e];exact O v L (by omega) o
    .have:=qm p
     rw[q]at this
     unfold Par.updF at this
     by_cases e:v=b
     .rw[if_pos e]at this;rw[← this];exact .inr K.1
     .rw[if_neg e]at this
      obtain⟨aG,aQ⟩:=bu p
      have y:=kS r aG (by omega)
      rw[this]at y
      exact Q v i y
  .have F:(b2i (wB W (b:Int)) !=b2i ((gI g).own (b:Int)))=true:=by
    unfold bne;rw[kJ]
    cases p:wB W (b:Int) <;> cases au:(gI g).own (b:Int) <;> simp_all
   have G:(b2i ((gI g).own (b:Int)) !=b2i (wB W (b:Int)))=true:=by
    unfold bne;rw[kJ]
    cases p:wB W (b:Int) <;> cases au:(gI g).own (b:Int) <;> simp_all
   rw[F,G,cond_true,cond_true,Af,cond_true]
   refine⟨_,_,rfl,rfl,rfl,r,s,λM an=>t M (by omega),λv L aq o=>?_,Q⟩
   have:v≠b:=λe=>m (by rw[← e];exact o)
   exact O v L (by omega) o)
 rw[ae,af,Af,Af,aU,aU,appL (by simp;omega) rfl,Af,zz]
 exact⟨c,rfl,rfl,ag,aj,ah.ans λv d o=>ai v d d.2 o⟩
end
end
section
open Classical
theorem gQ {g:Parity}{n:Nat}(h:GOk g n):fC g.Arena=some (zf n (-1)):=by
 have hn:=h.n256
 unfold fC
 rw[h.lo,bL (by omega) rfl,Af,yZ]
 obtain⟨e,c,i,d⟩:=fill (f:=jd) (λ_=> -1) n (s0:=zf n 0) (by simp) (λl e j k=>rfl)
 rw[c,Af,aU]
 congr 1
 apply yS
 intro b
 rw[zP]
 by_cases a:b<n
 .rw[if_pos a,← aS];exact d b a
 .rw[if_neg a];exact Ak (by omega)
theorem rY {n:Nat}(hn:n<=256):kD (n:Int)=some (zf n (-1)):=by
 unfold kD
 have e:rng (n:Int)=some ():=by
  unfold rng
  first
   |rfl
   |rw[if_pos (by omega)]
 rw[e,Af,show zq ((n:Int)-0)=n from by omega]
 obtain⟨a,c,d⟩:=ba (f:=g8) (λb (a:VI)=>a=zf b (-1)) n (s:=[]) rfl (λb a i g=>by
  subst g
  unfold g8
  rw[app1 (by simp;omega) rfl,Af]
  exact⟨_,rfl,by rw[List.replicate_succ']⟩)
 rw[c,Af,aU,d]
structure Solv (g:Parity) (W:Int->Prop) (k:VI):Prop where
 sol:Ar (gI g) (Xn g.Prio.length) false W
 len:k.length=g.Prio.length
 pick:∀v x,idx k v=some x->x= -1\/0<=x
 ans:Par.Ans (gI g) (Xn g.Prio.length) (wB W) (pkL k)
theorem m0 {g:Parity}(hp:bC g=true):∃W k,ky g=some ⟨wonL g.Prio.length W,k⟩/\js g=some ⟨wonL g.Prio.length W,k⟩/\gA g=some (wonL g.Prio.length W)/\gh g=some (wonL g.Prio.length W)/\Solv g W k:=by
 have h:=GOk.of hp
 obtain⟨W,a,b,c⟩:=vD h (gp hp)
 obtain⟨k,d,e,f,i,j⟩:=ta hp rfl c a
 refine⟨W,k,?_,?_,a,b,c,f,i,j⟩
 .unfold ky
  rw[jk,hp,Af,zG,cond_false,rY h.n256,Af,d];rfl
 .unfold js
  rw[gv,hp,Af,zG,cond_false,gQ h,Af,b,Af,e];rfl
end
theorem wc (a b:Int):dF a b=some (decide (a<b)):=by
 unfold dF bW
 simp
theorem xr {i j:Int}(c:0<=i) (d:0<=j) (e:i+j<=1000000):zr .i64 (Int.fdiv (zr .u64 (zr .i64 (i+j))) (2 ^ (min (zq 1) (IntKind.bits IntKind.u64))))=(i+j) / 2:=by
 have a:(2:Int) ^ (min (zq 1) (IntKind.bits IntKind.u64))=2:=by decide
 have b:zr .u64 (i+j)=i+j:=by rw[IntKind.wrap_u64];omega
 rw[a,wr' (z:=i+j) (by omega) (by omega),b,uB (by omega),wr' (by omega) (by omega)]
theorem uj {xs:VI}(h:Asc xs) (hl:xs.length<=100000) (x:Int):∃p,bD xs x=some (p,decide (x∈xs)):=by
 obtain⟨G,H,I⟩:=bI (f:=bw xs x) (λw (a:Int×Int)=>0<=a.1/\a.1<=a.2/\a.2<=xs.length/\a.2-a.1+w<=xs.length/\(∀(k:Nat) b,(k:Int)<a.1->xs[k]? =some b->b<x)/\(∀(k:Nat) b,a.2<=(k:Int)->xs[k]? =some b->x<=b)) (λ_=>False)
  (λa=>a.1=a.2/\0<=a.1/\a.2<=xs.length/\(∀(k:Nat) b,(k:Int)<a.1->xs[k]? =some b->b<x)/\(∀(k:Nat) b,a.2<=(k:Int)->xs[k]? =some b->x<=b)) xs.length
  (λw a ⟨j,E,u,F,l,m⟩=>by
   obtain⟨d,n⟩:=a
   dsimp only at j E u F l m ⊢
   unfold bw
   dsimp only
   by_cases o:d<n
   .have q:=xr (i:=d) (j:=n) j (by omega) (by omega)
    obtain⟨b,e,_⟩:=so (xs:=xs) (z:=(d+n) / 2) (by omega) (by omega)
    simp only[o,decide_true,cond_true,q,e,Af,wc]
    obtain⟨B,z⟩:=bA (z:=(d+n) / 2) (by omega)
    rw[z,aS]at e
    rw[z]
    by_cases g:b<x
    .simp only[g,decide_true,cond_true,Af]
     rw[wr' (by omega) (by omega)]
     refine⟨_,rfl,by omega,?_,?_,?_,?_,?_,m⟩
     .dsimp only;omega
     .dsimp only;omega
     .dsimp only;omega
     .dsimp only;omega
     .intro k v c i
      dsimp only at c
      by_cases s:k=B
      .subst s;rw[e]at i;cases i;exact g
      .have:=lL h i e (by omega);omega
    .simp only[g,decide_false,cond_false,Af]
     refine⟨_,rfl,by omega,j,?_,?_,?_,l,?_⟩
     .dsimp only;omega
     .dsimp only;omega
     .dsimp only;omega
     .intro k v c i
      dsimp only at c
      by_cases s:k=B
      .subst s;rw[e]at i;cases i;omega
      .have:=lL h e i (by omega);omega
   .simp only[o,decide_false,cond_false]
    exact⟨_,rfl,by dsimp only;omega,j,by dsimp only;omega,l,m⟩)
  (2 ^ 64) 0 (0,(xs.length:Int)) (by omega) ⟨Int.le_refl 0,by dsimp only;omega,by dsimp only;omega,by dsimp only;omega,λk b c=>by dsimp only at c;omega,λk b c e=>by have:=(yo.1 e).1;dsimp only at c;omega⟩ (by omega)
 match G,I with
 |.inr a,⟨y,j,u,l,m⟩=>
  obtain⟨d,n⟩:=a
  dsimp only at y j u l m
  subst y
  obtain⟨d,rfl⟩:=bA j
  refine⟨(d:Int),?_⟩
  unfold bD
  rw[H,Af,aU]
  dsimp only
  by_cases o:(d:Int)<(xs.length:Int)
  .have e:xs[d]? =some (xs[d]'(by omega)):=nx (by omega)
   have D:=m d _ (by omega) e
   have A:=List.getElem_mem (show d<xs.length by omega)
   generalize xs[d]'(by omega)=b at e D A
   simp only[o,decide_true,cond_true,aS,e,Af]
   by_cases g:b=x
   .subst g
    simp[A]
   .have C:(b==x)=false:=by simp[g]
    have t:x∉xs:=λq=>by
     obtain⟨k,c⟩:=List.mem_iff_getElem?.1 q
     rcases Nat.lt_trichotomy k d with r|r|r
     .have:=l k x (by omega) c;omega
     .subst r;rw[e]at c;exact g (zt c)
     .have:=lL h e c r;omega
    unfold cw
    simp[C,t]
  .have t:x∉xs:=λq=>by
    obtain⟨k,c⟩:=List.mem_iff_getElem?.1 q
    have:=(yo.1 c).1
    have:=l k x (by omega) c
    omega
   simp[o,t]
theorem kN {xs ys:VI}(h:Asc ys) (hl:ys.length<=100000) (m:xs.length<=100000):gH xs ys=some (xs.filter λb=> !decide (b∈ys)):=by
 unfold gH
 obtain⟨d,g,i⟩:=ba (f:=gJ xs ys) (λa d=>d=(xs.take a).filter λb=> !decide (b∈ys)) xs.length (s:=[]) rfl (λa d j k=>by
  subst k
  have e:xs[a]? =some xs[a]:=by simp[j]
  obtain⟨p,hp⟩:=uj h hl xs[a]
  have l:((xs.take a).filter λb=> !decide (b∈ys)).length<=100000:=Ae (zR ..) (by rw[y8];omega)
  unfold gJ
  rw[aS,e,Af,hp,Af,Aa,e]
  simp only[Option.toList_some,zM]
  cases c:decide (xs[a]∈ys) with
  |true=>
   refine⟨_,rfl,?_⟩
   simp only[decide_eq_true_eq]at c
   simp[c]
  |false=>
   simp only[zF,cond_true]
   rw[app1 (by omega) rfl]
   refine⟨_,rfl,?_⟩
   simp only[decide_eq_false_iff_not]at c
   simp[c])
 rw[g,i,Ac]
 rfl
section
open Classical
def rk (R:VI) (v:Int):Int:=(idx R v).getD (-1)
theorem gn {R:VI}{v:Int}(a:0<=v) (b:v<R.length):idx R v=some (rk R v):=by
 obtain⟨d,c⟩:=bg (xs:=R) a b
 unfold rk;rw[c];rfl
theorem mS {R:VI}{v:Int}(h:¬(0<=v/\v<R.length)):rk R v= -1:=by
 unfold rk
 cases a:idx R v with
 |none=>rfl
 |some b=>exact absurd (bu a) h
theorem lF {R R':VI}{v x:Int}(h:setI R v x=some R') (w:Int):rk R' w=if w=v then x else rk R w:=by
 unfold rk
 rw[bp h]
 split <;> rfl
theorem we (B:VB) (j:Nat):Asc (bE B j):=by
 unfold bE
 rw[Asc,List.pairwise_map]
 refine List.Pairwise.filter _ ?_
 exact List.pairwise_lt_range.imp λh=>by
  show(_:Int)<_
  exact Int.ofNat_lt.2 h
section
variable {g:Parity}{n:Nat}(h:GOk g n)
include h
theorem sR {v:Int}(d:0<=v) (e:v<n):∃a,idx g.Arena.Next v=some a/\bm g.Arena v=a/\a.length<=16/\∀c∈a,0<=c/\c<n:=by
 obtain⟨a,b⟩:=bg (xs:=g.Arena.Next) (i:=v) d (by rw[h.ln];exact e)
 exact⟨a,b,c8 b,(h.row v a b).1,(h.row v a b).2.2⟩
theorem rz {M:VB}{R:VI}(U:M.length=n) (V:R.length=n){v:Int}(D:0<=v) (E:v<n) (p:Bool):
 ∃s,iG g.Arena (b2i p) M R v=some s/\(s=true↔((gI g).own v=p/\∃b∈bm g.Arena v,In M b/\0<=rk R b)\/(¬(gI g).own v=p/\(∃b∈bm g.Arena v,In M b)/\∀b∈bm g.Arena v,In M b->0<=rk R b)):=by
 obtain⟨k,P,Q,_,S⟩:=sR h D E
 obtain⟨m,H,t,u,w⟩:=ba (f:=ek M R k) (λl (m:Bool×Bool×Bool)=>(m.1=true↔∃b∈k.take l,In M b/\0<=rk R b)/\(m.2.1=true↔∀b∈k.take l,In M b->0<=rk R b)/\(m.2.2=true↔∃b∈k.take l,In M b)) k.length (s:=(false,true,false)) ⟨by simp,by simp,by simp⟩ (λl m I ⟨x,y,T⟩=>by
  have q:k[l]? =some k[l]:=nx I
  generalize k[l]=b at q
  obtain⟨C,X⟩:=S b (ze q)
  have L:=cd (B:=M) (v:=b) C (by omega)
  have K:=gn (R:=R) (v:=b) C (by omega)
  unfold ek
  rw[aS,q,Af,L,Af,bi q]
  by_cases j:In M b
  .rw[decide_eq_true j,zG,cond_false,K,Af]
   obtain⟨z,A,W⟩:=m
   have F:(bif z then some true else some (decide (0<=rk R b)))=some (z||decide (0<=rk R b)):=orE _ _
   have G:(bif A then some (decide (0<=rk R b)) else some false)=some (A&&decide (0<=rk R b)):=andE _ _
   simp only[F,G,Af]
   refine⟨_,rfl,?_,?_,?_⟩
   .rw[Bool.or_eq_true,decide_eq_true_iff,x]
    constructor
    .rintro(⟨d,a,i⟩|c)
     .exact⟨d,zT _ a,i⟩
     .exact⟨b,by simp,j,c⟩
    .rintro⟨d,a,i,r⟩
     rcases yu.1 a with a|a
     .exact .inl ⟨d,a,i,r⟩
     .rw[yw]at a;subst a;exact .inr r
   .rw[rx,decide_eq_true_iff,y]
    constructor
    .rintro⟨a,i⟩ d c o
     rcases yu.1 c with c|c
     .exact a d c o
     .rw[yw]at c;subst c;exact i
    .exact λc=>⟨λd a=>c d (zT _ a),c b (by simp) j⟩
   .simp only[true_iff]
    exact⟨b,by simp,j⟩
  .rw[decide_eq_false j,zF,cond_true]
   refine⟨_,rfl,?_,?_,?_⟩
   .rw[x]
    constructor
    .rintro⟨d,a,i⟩;exact⟨d,zT _ a,i⟩
    .rintro⟨d,a,i,r⟩
     rcases yu.1 a with a|a
     .exact⟨d,a,i,r⟩
     .rw[yw]at a;subst a;exact absurd i j
   .rw[y]
    constructor
    .intro e d c o
     rcases yu.1 c with c|c
     .exact e d c o
     .rw[yw]at c;subst c;exact absurd o j
    .exact λc d a=>c d (zT _ a)
   .rw[T]
    constructor
    .rintro⟨d,a,i⟩;exact⟨d,zT _ a,i⟩
    .rintro⟨d,a,i⟩
     rcases yu.1 a with a|a
     .exact⟨d,a,i⟩
     .rw[yw]at a;subst a;exact absurd i j)
 rw[Ac]at t u w
 have N:=kR h (v:=v) ⟨D,E⟩
 have O:(b2i ((gI g).own v)==b2i p)=decide ((gI g).own v=p):=by cases(gI g).own v <;> cases p <;> rfl
 unfold iG
 rw[P,Af,H,Af,aU,N,Af,O,Q]
 by_cases hp:(gI g).own v=p
 .rw[decide_eq_true hp,cond_true]
  refine⟨_,rfl,?_⟩
  rw[t]
  exact⟨λe=> .inl ⟨hp,e⟩,λe=>e.elim (λe=>e.2) λe=>absurd hp e.1⟩
 .rw[decide_eq_false hp,cond_false,andE,Af]
  refine⟨_,rfl,?_⟩
  rw[rx,u,w]
  exact⟨λe=> .inr ⟨hp,e⟩,λe=>e.elim (λe=>absurd e.1 hp) λe=>e.2⟩
def Pull (g:Parity) (X R:VI) (p:Bool) (v:Int):Prop:=((gI g).own v=p/\∃a∈bm g.Arena v,a∈X/\0<=rk R a)\/(¬(gI g).own v=p/\(∃a∈bm g.Arena v,a∈X)/\∀a∈bm g.Arena v,a∈X->0<=rk R a)
variable {X:VI}(hX:∀v∈X,0<=v/\v<n) (hl:X.length<=100000)
include hX hl
theorem wh {M:VB}{R:VI}{r:Int}(t:M.length=n) (w:∀v,In M v↔v∈X) (x:R.length=n) (p:Bool):
 cntM (ea g.Arena (b2i p) X M (r,R)) X.length 0 []=some (.inr (X.filter λv=>decide (rk R v<0/\Pull g X R p v))):=by
 obtain⟨i,q,s⟩:=ba (f:=ea g.Arena (b2i p) X M (r,R)) (λb (i:VI)=>i=(X.take b).filter λv=>decide (rk R v<0/\Pull g X R p v)) X.length (s:=[]) (by simp) (λb i z A=>by
  subst A
  have e:X[b]? =some X[b]:=nx z
  generalize X[b]=u at e
  obtain⟨k,B⟩:=hX u (ze e)
  obtain⟨a,l,m⟩:=rz h t x k B p
  have j:a=true↔Pull g X R p u:=by
   rw[m]
   unfold Pull
   simp only[w]
  have d:=gn (R:=R) (v:=u) k (by omega)
  have C:((X.take b).filter λv=>decide (rk R v<0/\Pull g X R p v)).length<=100000:=Ae (zR _ _) (by rw[y8];omega)
  unfold ea
  rw[aS,e,Af]
  dsimp only
  rw[d,Af,l,Af,bi e,zM]
  have o:(bif decide (rk R u<0) then some a else some false)=some (decide (rk R u<0)&&a):=andE _ _
  rw[o,Af]
  by_cases c:rk R u<0/\Pull g X R p u
  .have:(decide (rk R u<0)&&a)=true:=by rw[rx];exact⟨decide_eq_true c.1,j.2 c.2⟩
   rw[this,cond_true,app1 (by omega) rfl,Af,Af]
   refine⟨_,rfl,?_⟩
   rw[List.filter_cons_of_pos (by simpa using c)];rfl
  .have:(decide (rk R u<0)&&a)=false:=by
    rw[Bool.and_eq_false_iff]
    by_cases d:rk R u<0
    .right
     cases y:a with
     |false=>rfl
     |true=>exact absurd ⟨d,j.1 y⟩ c
    .exact .inl (decide_eq_false d)
   rw[this,cond_false,Af]
   refine⟨_,rfl,?_⟩
   rw[List.filter_cons_of_neg (by simpa using c)];simp)
 rw[q,s,Ac]
omit hX hl h in
theorem uV {R L:VI}{r r':Int}(p:R.length=n) (o:∀v∈L,0<=v/\v<n) (t:zr .i64 (r+1)=r'):
 ∃R',cntM (eb (r,R) L) L.length 0 R=some (.inr R')/\R'.length=n/\∀v,rk R' v=if v∈L then r' else rk R v:=by
 obtain⟨a,l,m,g⟩:=ba (f:=eb (r,R) L) (λb (a:VI)=>a.length=n/\∀v,rk a v=if v∈L.take b then r' else rk R v) L.length (s:=R) ⟨p,λv=>by simp⟩ (λb a q ⟨y,w⟩=>by
  have e:L[b]? =some L[b]:=nx q
  generalize L[b]=u at e
  obtain⟨k,A⟩:=o u (ze e)
  obtain⟨x,s⟩:=bg (xs:=a) (i:=u) k (by omega)
  obtain⟨z,j,hl⟩:=bj (xs:=a) (i:=u) r' k (by omega)
  unfold eb
  rw[aS,e,Af,s,Af]
  dsimp only
  rw[t,j,Af,bi e]
  refine⟨_,rfl,by omega,λv=>?_⟩
  rw[lF j,w]
  by_cases c:v=u
  .rw[if_pos c,if_pos (by simp[c])]
  .rw[if_neg c]
   by_cases d:v∈L.take b
   .rw[if_pos d,if_pos (by simp[d])]
   .rw[if_neg d,if_neg (by simp[c,d])])
 rw[Ac]at g
 exact⟨a,l,m,g⟩
omit h hX hl in
theorem iu {R:VI}(v:Int):In (R.map λa=>decide (0<=a)) v↔0<=rk R v:=by
 unfold In rk
 by_cases b:0<=v
 .rw[dE b,dE b,yX]
  cases R[v.toNat]? <;> simp
 .have d:idx R v=none:=by
   cases c:idx R v with
   |none=>rfl
   |some a=>exact absurd (bu c).1 b
  have e:idx (R.map λa=>decide (0<=a)) v=none:=by
   cases c:idx (R.map λa=>decide (0<=a)) v with
   |none=>rfl
   |some a=>exact absurd (bu c).1 b
  rw[d,e];simp
theorem fk {S:VI}(az:∀v∈S,0<=v/\v<n) (aP:S.length<=100000) (ay:Aq (gI g) (·∈X)) (p:Bool):
 ∃A,eQ g.Arena (b2i p) X S=some A/\Asc A/\A.length<=n/\(∀v∈A,0<=v/\v<n)/\Par.IsAttr (gI g) (·∈X) p (·∈S) (·∈A):=by
 have hn:=h.n256
 obtain⟨M,aF,aG,Z⟩:=kr h hX
 -- the first ranks
 obtain⟨R0,am,an,ao⟩:=fill (f:=im) (λ_=>(-1:Int)) n (s0:=zf n 0) (by simp) (λb e C t=>rfl)
 have ap:∀v,rk R0 v= -1:=λv=>by
  by_cases d:0<=v/\v<n
  .obtain⟨b,C⟩:=bA d.1
   subst C
   unfold rk
   rw[ao b (by omega)];rfl
  .exact mS (by omega)
 obtain⟨R1,aq,ar,H⟩:=ba (f:=fI S M) (λb (e:VI)=>e.length=n/\∀v,rk e v=if v∈S.take b/\v∈X then 0 else -1) S.length (s:=R0) ⟨an,λv=>by simp[ap]⟩ (λb e C ⟨P,y⟩=>by
  have q:S[b]? =some S[b]:=nx C
  generalize S[b]=a at q
  obtain⟨af,l⟩:=az a (ze q)
  have aC:=cd (B:=M) (v:=a) af (by omega)
  obtain⟨aW,F⟩:=bg (xs:=e) (i:=a) af (by omega)
  obtain⟨aX,t,hl⟩:=bj (xs:=e) (i:=a) 0 af (by omega)
  unfold fI
  rw[aS,q,Af,aC,Af,bi q]
  by_cases N:a∈X
  .rw[decide_eq_true ((Z a).2 N),cond_true,F,Af,t,Af,Af]
   refine⟨_,rfl,by omega,λv=>?_⟩
   rw[lF t,y]
   by_cases j:v=a
   .subst j;rw[if_pos rfl,if_pos ⟨by simp,N⟩]
   .rw[if_neg j]
    by_cases r:v∈S.take b/\v∈X
    .rw[if_pos r,if_pos ⟨by simp[r.1],r.2⟩]
    .rw[if_neg r,if_neg (by rw[yu,yw];exact λc=>r ⟨c.1.resolve_right j,c.2⟩)]
  .rw[decide_eq_false (λc=>N ((Z a).1 c)),cond_false,Af]
   refine⟨_,rfl,P,λv=>?_⟩
   rw[y]
   by_cases r:v∈S.take b/\v∈X
   .rw[if_pos r,if_pos ⟨by simp[r.1],r.2⟩]
   .rw[if_neg r,if_neg (by
     rw[yu,yw]
     rintro⟨c|c,x⟩
     .exact r ⟨c,x⟩
     .subst c;exact N x)])
 rw[Ac]at H
 -- the levels
 let I:Nat->Int×VI->Prop:=λb e=>e.1=(b:Int)/\e.2.length=n/\(∀v,rk e.2 v= -1\/0<=rk e.2 v/\v∈X/\rk e.2 v<=b)/\(∀v,rk e.2 v=0↔v∈S/\v∈X) /\
  (∀v,0<rk e.2 v->((gI g).own v=p/\∃a∈bm g.Arena v,0<=rk e.2 a/\rk e.2 a<rk e.2 v)\/(¬(gI g).own v=p/\∀a∈bm g.Arena v,a∈X->0<=rk e.2 a/\rk e.2 a<rk e.2 v))/\b<=cnt (e.2.map λk=>decide (0<=k))
 obtain⟨aH,aa,aI⟩:=bI (f:=fJ g.Arena (b2i p) X M) I (λR=>∃b,I b ((b:Int),R)/\∀v∈X,rk R v<0->¬Pull g X R p v) (λ_=>False) n (λb e ⟨P,y,Q,ab,ac,ad⟩=>by
  obtain⟨aK,R⟩:=e
  dsimp only at P y Q ab ac ad
  subst P
  have aR:b<=n:=Ae ad (by have:=mI (R.map λk=>decide (0<=k));rw[Al]at this;omega)
  unfold fJ
  rw[wh h hX hl aG Z y p,Af,aU]
  generalize hL:(X.filter λv=>decide (rk R v<0/\Pull g X R p v))=L
  have u:∀v,v∈L↔v∈X/\rk R v<0/\Pull g X R p v:=λv=>by rw[← hL,zV,decide_eq_true_iff]
  by_cases D:L.length=0
  .rw[show((L.length:Int)==0)=true from by simp[D],cond_true]
   refine⟨_,rfl,b,⟨rfl,y,Q,ab,ac,ad⟩,λv d G hp=>?_⟩
   have:=(u v).2 ⟨d,G,hp⟩
   rw[zQ.1 D]at this
   cases this
  .rw[show((L.length:Int)==0)=false from by simp;exact λc=>D (by simp[c]),cond_false]
   obtain⟨R',au,av,z⟩:=uV (r:=(b:Int)) (r':=(b:Int)+1) y (L:=L) (λv d=>hX v ((u v).1 d).1) (wr' (by omega) (by omega))
   have O:zr .i64 ((b:Int)+1)=(b:Int)+1:=wr' (by omega) (by omega)
   dsimp only
   rw[au,Af,aU,O]
   have U:∀v,0<=rk R v->rk R' v=rk R v:=λv d=>by rw[z,if_neg (λc=>by have:=((u v).1 c).2.1;omega)]
   have aQ:cnt (R.map λk=>decide (0<=k))<cnt (R'.map λk=>decide (0<=k)):=by
    obtain⟨w,O⟩:=List.exists_mem_of_length_pos (Nat.pos_of_ne_zero D)
    refine nY (λv d=>?_) (w:=w) ?_ ?_
    .rw[iu]at d ⊢
     rw[U v d];exact d
    .rw[iu,z,if_pos O];omega
    .rw[iu]
     have:=((u w).1 O).2.1
     omega
   have aT:cnt (R'.map λk=>decide (0<=k))<=n:=by have:=mI (R'.map λk=>decide (0<=k));rw[Al]at this;omega
   refine⟨_,rfl,by omega,by push_cast;rfl,av,λv=>?_,λv=>?_,λv d=>?_,by dsimp only;omega⟩
   .dsimp only
    rw[z]
    by_cases j:v∈L
    .rw[if_pos j];exact .inr ⟨by omega,((u v).1 j).1,by push_cast;omega⟩
    .rw[if_neg j]
     rcases Q v with c|⟨c,x,aJ⟩
     .exact .inl c
     .exact .inr ⟨c,x,by push_cast;omega⟩
   .dsimp only
    rw[z,← ab]
    by_cases j:v∈L
    .rw[if_pos j]
     have:=((u v).1 j).2.1
     constructor <;> intro c <;> omega
    .rw[if_neg j]
   .dsimp only at d ⊢
    by_cases j:v∈L
    .obtain⟨aM,aN,o⟩:=(u v).1 j
     have Y:rk R' v=(b:Int)+1:=by rw[z,if_pos j]
     rw[Y]
     have aj:∀a,0<=rk R a->0<=rk R' a/\rk R' a<(b:Int)+1:=λa q=>by
      rw[U a q]
      rcases Q a with c|⟨c,x,aJ⟩ <;> omega
     rcases o with ⟨o,a,l,m,T⟩|⟨o,_,E⟩
     .exact .inl ⟨o,a,l,aj a T⟩
     .exact .inr ⟨o,λa l m=>aj a (E a l m)⟩
    .have Y:rk R' v=rk R v:=by rw[z,if_neg j]
     rw[Y]at d ⊢
     rcases ac v d with ⟨o,a,l,m,T⟩|⟨o,E⟩
     .exact .inl ⟨o,a,l,by rw[U a m];exact⟨m,T⟩⟩
     .exact .inr ⟨o,λa l m=>by obtain⟨K,ag⟩:=E a l m;rw[U a K];exact⟨K,ag⟩⟩) (2 ^ 64) 0 ((0:Int),R1) (by omega) ⟨rfl,ar,λv=>by
   dsimp only
   rw[H]
   split
   .rename_i j;exact .inr ⟨by omega,j.2,by omega⟩
   .exact .inl rfl,λv=>by
   dsimp only
   rw[H]
   split
   .rename_i j;simp[j]
   .rename_i j;simp;exact λc x=>j ⟨c,x⟩,λv d=>by
   dsimp only at d
   rw[H]at d
   split at d <;> omega,Nat.zero_le _⟩ (by decide)
 match aH,aa,aI with
 |.inl R,aa,⟨b,⟨_,aL,ak,ae,al,_⟩,ai⟩=>
  dsimp only at aL ak ae al
  have aD:jy g.Arena (b2i p) X S=some R:=by
   unfold jy
   rw[aF,Af,h.lo,bL (by omega) rfl,Af,yZ,am,Af,aU,aq,Af,aU,aa]
   rfl
  obtain⟨A,aw,V⟩:=ba (f:=fj R) (λb (e:VI)=>e=bE (R.map λk=>decide (0<=k)) b) R.length (s:=[]) rfl (λb e C t=>by
   subst t
   have q:R[b]? =some R[b]:=nx C
   generalize R[b]=a at q
   have ax:(R.map λk=>decide (0<=k))[b]? =some (decide (0<=a)):=by rw[yX,q];rfl
   have aV:=gk (R.map λk=>decide (0<=k)) b
   unfold fj
   rw[aS,q,Af,ng ax]
   by_cases j:0<=a
   .rw[decide_eq_true j,cond_true,app1 (by omega) rfl,Af,Af]
    exact⟨_,rfl,by simp⟩
   .rw[decide_eq_false j,cond_false,Af]
    exact⟨_,rfl,by simp⟩)
  have s:∀v,v∈A↔0<=rk R v:=λv=>by
   rw[V,← iu,← bF,Al]
  have ah:∀v∈A,v∈X:=λv d=>by
   rcases ak v with c|c
   .have:=(s v).1 d;omega
   .exact c.2.1
  refine⟨A,?_,by rw[V];exact we _ _,by rw[V];exact Ae (gk _ _) (by omega),λv d=>hX v (ah v d),ah,λv d t=>(s v).2 (by have:=(ae v).2 ⟨t,d⟩;omega),⟨λv=>(rk R v).toNat,λv d=>?_⟩,λv a d W F aB q aE=>?_,λv d W F=>?_⟩
  .unfold eQ
   rw[aD,Af,aw,Af,aU]
  .have aO:=(s v).1 d
   by_cases D:rk R v=0
   .exact .inl ((ae v).1 D).1
   .rcases al v (by omega) with ⟨o,a,l,m,T⟩|⟨o,E⟩
    .exact .inr (.inl ⟨o,a,l,(s a).2 m,by dsimp only;omega⟩)
    .exact .inr (.inr ⟨o,λa l m=>by obtain⟨K,ag⟩:=E a l m;exact⟨(s a).2 K,by dsimp only;omega⟩⟩)
  .have G:rk R v<0:=by
    rcases Int.lt_or_le (rk R v) 0 with c|c
    .exact c
    .exact absurd ((s v).2 c) W
   exact ai v d G (.inl ⟨F,a,aB,q,(s a).1 aE⟩)
  .have G:rk R v<0:=by
    rcases Int.lt_or_le (rk R v) 0 with c|c
    .exact c
    .exact absurd ((s v).2 c) W
   refine zJ λaA=>ai v d G (.inr ⟨F,?_,λa l m=>?_⟩)
   .obtain⟨a,l,m⟩:=ay v d
    exact⟨a,l,m⟩
   .exact(s a).1 (zJ λc=>aA ⟨a,l,m,c⟩)
end
end
end Go.Proofs.YtgbippnfaoedmaaGreatDoor
namespace Go.Proofs.YtgbippnfaoedmaaGreatDoor.Par
section
open Classical
section
variable {G:Gm}{X:Int->Prop}{p:Bool}{A D:Int->Prop}
theorem Dom.core {d:Int}(hX:NoDead G X) (F:∀v,X v->G.pri v<=d) (hp:oddP d=p) (t:IsAttr G X p (λv=>G.pri v=d) A) (u:Dom G X (!p) D){S:Int}(s:D S) (E:∃A',IsAttr G D p (λv=>G.pri v=d) A') (I:∀A',IsAttr G D p (λv=>G.pri v=d) A'->∃W,Sol G (Mn D A') p W):
 ∃m,(∃v,m v)/\(∀v,m v->D v)/\Dom G (Mn X A) (!p) m:=by
 obtain⟨Z,l,O,q,V⟩:=id u
 have y:∀{v},G.own v=p->¬G.own v= !p:=λh=>by rw[h];cases p <;> simp
 have pn:∀{v},¬G.own v=p->G.own v= !p:=λ{v} h=>by revert h;cases G.own v <;> cases p <;> simp
 have nn:∀{v},¬(G.own v= !p)->G.own v=p:=λ{v} h=>by revert h;cases G.own v <;> cases p <;> simp
 have B:NoDead G D:=λv a=>by
  by_cases c:G.own v=p
  .obtain⟨b,e,f⟩:=hX v (l v a)
   exact⟨b,e,q v b a (y c) e f⟩
  .obtain⟨e,f⟩:=O v a (pn c)
   exact⟨_,e,f⟩
 obtain⟨A',g⟩:=E
 obtain⟨W,hW⟩:=I A' g
 by_cases w:∃v,Mn (Mn D A') W v
 .obtain⟨T,Y,P,Q,R⟩:=hW.yours
  obtain⟨N,H⟩:=t.rank
  have K:∀k v,N v<k->A v->D v->A' v:=λk=>by
   induction k with
   |zero=>intro v a;omega
   |succ k x=>
    intro v a ha j
    by_cases o:A' v
    .exact o
    .rcases H v ha with h|⟨c,b,e,f,r⟩|⟨c,h⟩
     .exact g.base v j h
     .have i:=q v b j (y c) e (t.sub b f)
      exact absurd (x b (by omega) f i) (g.mine v b j o c e i)
     .obtain⟨b,e,f,r⟩:=g.yours v j o c
      obtain⟨z,U⟩:=h b e (l b f)
      exact absurd (x b (by omega) z f) r
  refine⟨Mn (Mn D A') W,w,λv a=>a.1.1,T,λv a=>⟨l v a.1.1,λha=>a.1.2 (K _ v (Nat.lt_succ_self _) ha a.1.1)⟩,P,λv b a c n M=>?_,R⟩
  have i:=q v b a.1.1 c n M.1
  exact Q v b a c n ⟨i,g.mine v b a.1.1 a.1.2 (nn c) n i⟩
 .have C:∀v,Mn D A' v->W v:=λv a=>zJ λh=>w ⟨v,a,h⟩
  have L:Dom G D p D:=Dom.top B (λv a=>F v (l v a)) hp g (hW.mine.congr λv=>⟨λh=>hW.sub v h,C v⟩)
  exact(Dom.disj L u.self s s).elim
def Sz (D:Int->Prop) (k:Nat):Prop:=∃a:VI,a.length<=k/\∀v,D v->v∈a
theorem Sz.sub {D D':Int->Prop}{k j:Nat}(h:Sz D k) (b:∀v,D' v->D v) (f:k<=j):Sz D' j:=by
 obtain⟨d,e,a⟩:=h
 exact⟨d,by omega,λv c=>a v (b v c)⟩
theorem Sz.zero (h:Sz D 0) (v:Int):¬D v:=λc=>by
 obtain⟨d,a,b⟩:=h
 have:=b v c
 rw[zQ.1 (Nat.le_zero.1 a)]at this
 cases this
theorem Sz.less {D E S:Int->Prop}{b h:Nat}(f:Sz D b) (g:¬Sz E h) (i:∀v,E v->D v) (j:∀v,E v->¬S v):Sz (λv=>D v/\S v) (b-h-1):=by
 obtain⟨a,e,d⟩:=f
 have p:(a.filter λv=>decide (E v)).length+(a.filter λv=> !decide (E v)).length=a.length:=by
  clear e d
  induction a with
  |nil=>rfl
  |cons o a q=>by_cases n:E o <;> simp[n] <;> omega
 have:h<(a.filter λv=>decide (E v)).length:=Nat.lt_of_not_le λl=>g ⟨_,l,λv c=>zV.2 ⟨d v (i v c),decide_eq_true c⟩⟩
 exact⟨a.filter λv=> !decide (E v),by omega,λv ⟨c,m⟩=>zV.2 ⟨d v c,by simp;exact λk=>j v k m⟩⟩
structure Good (G:Gm) (X:Int->Prop) (p:Bool) (a b:Nat) (S:Int->Prop):Prop where
 sub:∀v,S v->X v
 mine:∀D,Dom G X p D->Sz D a->∀v,D v->S v
 yours:∀D,Dom G X (!p) D->Sz D b->∀v,D v->¬S v
structure Rd (G:Gm) (p:Bool) (a b:Nat) (X S:Int->Prop):Prop where
 sub:∀v,S v->X v
 mine:∀D,Dom G X p D->Sz D a->(∀v,D v->S v)/\Dom G S p D
 yours:∀D,Dom G X (!p) D->Dom G S (!p) (λv=>D v/\S v)
 dead:NoDead G S
 take:∀D,Dom G X (!p) D->Sz D b->∀v0,D v0->∃E,(∃v,E v)/\(∀v,E v->D v)/\(∀v,E v->¬S v)/\Dom G X (!p) E
theorem Rd.fix {a b:Nat}{S:Int->Prop}(h:Rd G p a b X S) (i:∀v,X v->S v) (g:Dom G X (!p) D) (j:Sz D b) (v:Int):¬D v:=λk=>by
 obtain⟨m,⟨c,d⟩,n,e,f⟩:=h.take D g j v k
 obtain⟨o,l,_⟩:=f
 exact e c d (i c (l c d))
theorem Rd.of {a b:Nat}{d:Int}{L R:Int->Prop}(hX:NoDead G X) (U:∀v,X v->G.pri v<=d) (hp:oddP d=p) (z:IsAttr G X p (λv=>G.pri v=d) A) (B:Good G (Mn X A) (!p) b a L) (s:IsAttr G X (!p) L R)
 (T:∀D,(∀v,D v->X v)->NoDead G D->∃A',IsAttr G D p (λv=>G.pri v=d) A') (ad:∀D,(∀v,D v->X v)->NoDead G D->∃W,Sol G D p W):Rd G p a b X (Mn X R):=by
 have M:∀{v},G.own v=p->¬G.own v= !p:=λh=>by rw[h];cases p <;> simp
 have pn:∀{v},¬G.own v=p->G.own v= !p:=λ{v} h=>by revert h;cases G.own v <;> cases p <;> simp
 have nn:∀{v},¬(G.own v= !p)->G.own v=p:=λ{v} h=>by revert h;cases G.own v <;> cases p <;> simp
 refine⟨λv c=>c.1,λD q t=>?_,λD q=>?_,hX.less s,λD q t ag P=>?_⟩
 .obtain⟨x,i,l,o,w⟩:=id q
  -- the part beside the attractor is a dominion there
  have ab:Dom G (Mn X A) p (λv=>D v/\¬A v):=by
   refine⟨x,λv c=>⟨i v c.1,c.2⟩,λv c e=>⟨(l v c.1 e).1,(l v c.1 e).2,z.mine v _ (i v c.1) c.2 e (l v c.1 e).1 (i _ (l v c.1 e).2)⟩,λv j c e r m=>⟨o v j c.1 e r m.1,m.2⟩,λE u=>w E λn=>⟨(u n).1.1,(u n).2⟩⟩
  have Y:∀v,D v->¬L v:=λv c hl=>by
   have V:=B.sub v hl
   exact B.yours (λv=>D v/\¬A v) (by rw[Bool.not_not];exact ab) (t.sub (λv h=>h.1) (yE _)) v ⟨c,V.2⟩ hl
  obtain⟨ae,ac⟩:=s.rank
  have aa:∀k v,ae v<k->D v->¬R v:=λk=>by
   induction k with
   |zero=>intro v c;omega
   |succ k K=>
    intro v c C ha
    rcases ac v ha with h|⟨e,j,g,f,y⟩|⟨e,h⟩
    .exact Y v C h
    .have Z:¬G.own v=p:=λO=>M O e
     exact K j (by omega) (o v j C Z g (s.sub j f)) f
    .obtain⟨g,f⟩:=l v C (nn e)
     obtain⟨N,af⟩:=h _ g (i _ f)
     exact K _ (by omega) f N
  have I:∀v,D v->Mn X R v:=λv c=>⟨i v c,aa _ v (Nat.lt_succ_self _) c⟩
  exact⟨I,x,I,l,λv j c e r m=>o v j c e r m.1,w⟩
 .obtain⟨x,i,l,o,w⟩:=id q
  refine⟨x,λv c=>c.2,λv c e=>?_,λv j c e r m=>⟨o v j c.1 e r m.1,m⟩,λE u=>w E λn=>⟨(u n).1.1,(u n).2⟩⟩
  obtain⟨g,f⟩:=l v c.1 e
  exact⟨g,f,i _ f,s.mine v _ c.2.1 c.2.2 e g (i _ f)⟩
 .obtain⟨x,i,l,o,w⟩:=id q
  have H:NoDead G D:=λv c=>by
   by_cases e:G.own v=p
   .obtain⟨j,g,f⟩:=hX v (i v c)
    exact⟨j,g,o v j c (M e) g f⟩
   .obtain⟨g,f⟩:=l v c (pn e)
    exact⟨_,g,f⟩
  obtain⟨F,g,f,y⟩:=Dom.core hX U hp z q P (T D i H) λA' Q=>ad (Mn D A') (λv c=>i v c.1) (H.less Q)
  have S:=B.mine F y (t.sub f (yE _))
  exact⟨F,g,f,λv c t=>t.2 (s.base v (i v (f v c)) (S v c)),Dom.lift z y⟩
theorem Rd.low {a b:Nat}(hX:NoDead G X) (f:∀v,X v->G.pri v=0):Rd G false a b X X:=by
 have l:Dom G X false X:=by
  refine⟨λv=>if h:∃e,G.E v e/\X e then h.choose else v,λ_ h=>h,λv m _=>?_,λ_ _ _ _ _ h=>h,λp i=>⟨0,rfl,λN=>⟨N,yE _,f _ (i N).1⟩,0,λn _=>by rw[f _ (i n).1];exact Int.le_refl _⟩⟩
  have:=hX v m
  have k:(λv=>if h:∃e,G.E v e/\X e then h.choose else v) v=this.choose:=dif_pos this
  rw[k]
  exact this.choose_spec
 refine⟨λ_ h=>h,λD c _=>⟨?_,c⟩,λD c=>c.congr λv=>⟨λh=>⟨h,?_⟩,λh=>h.1⟩,hX,λD c _ o g=>?_⟩
 .obtain⟨j,d,_⟩:=c;exact d
 .obtain⟨j,d,_⟩:=c;exact d v h
 .obtain⟨j,d,_⟩:=id c
  exact(Dom.disj l c (d o g) g).elim
inductive Rds (G:Gm) (p:Bool) (a b:Nat):(Int->Prop)->(Int->Prop)->Prop
 |nil {X:Int->Prop}:Rds G p a b X X
 |cons {X Y S:Int->Prop} (h:Rd G p a b X Y) (h':Rds G p a b Y S):Rds G p a b X S
theorem Rds.ok {a b:Nat}{S:Int->Prop}(h:Rds G p a b X S):(∀v,S v->X v)/\(∀D,Dom G X p D->Sz D a->(∀v,D v->S v)/\Dom G S p D)/\(∀D,Dom G X (!p) D->Dom G S (!p) (λv=>D v/\S v))/\(NoDead G X->NoDead G S):=by
 induction h with
 |nil=>exact⟨λ_ h=>h,λD c _=>⟨by obtain⟨m,e,_⟩:=c;exact e,c⟩,λD c=>c.congr λv=>⟨λh=>⟨h,by obtain⟨m,e,_⟩:=c;exact e v h⟩,λh=>h.1⟩,id⟩
 |cons h n l=>
  obtain⟨g,i,j,k⟩:=l
  refine⟨λv d=>h.sub v (g v d),λD c f=>i D (h.mine D c f).2 f,λD c=>(j _ (h.yours D c)).congr λv=>⟨λd=>⟨d.1.1,d.2⟩,λd=>⟨⟨d.1,g v d.2⟩,d.2⟩⟩,λ_=>k h.dead⟩
theorem Good.of {a b:Nat}{Y Z S:Int->Prop}(A:Rds G p a (b / 2) X Y) (B:Rd G p a (b / 2) Y Y) (d:Rd G p a b Y Z) (g:(∀v,Y v->Z v)/\S=Z\/Rds G p a (b / 2) Z S/\Rd G p a (b / 2) S S):Good G X p a b S:=by
 obtain⟨l,m,n,I⟩:=A.ok
 rcases g with ⟨g,rfl⟩|⟨g,C⟩
 .refine⟨λv c=>l v (d.sub v c),λD f e v c=>g v ((m D f e).1 v c),λD f e v c i=>?_⟩
  exact d.fix g (n D f) (e.sub (λv h=>h.1) (yE _)) v ⟨c,d.sub v i⟩
 .obtain⟨j,s,t,K⟩:=g.ok
  refine⟨λv c=>l v (d.sub v (j v c)),λD f e v c=>?_,λD f e v c i=>?_⟩
  .obtain⟨L,u⟩:=m D f e
   obtain⟨M,w⟩:=d.mine D u e
   exact(s D w e).1 v c
  .have o:=n D f
   have q:Sz (λv=>D v/\Y v) b:=e.sub (λv h=>h.1) (yE _)
   obtain⟨r,⟨H,E⟩,x,y,z⟩:=d.take _ o q v ⟨c,d.sub v (j v i)⟩
   have k:¬Sz r (b / 2):=λk=>B.fix (λ_ h=>h) z k H E
   have F:=q.less k x y
   refine C.fix (λ_ h=>h) (t _ (d.yours _ o)) (F.sub (λv c=>⟨c.1.1,c.1.2⟩) (by omega)) v ⟨⟨⟨c,d.sub v (j v i)⟩,j v i⟩,i⟩
theorem Good.sol {a b:Nat}{S W:Int->Prop}(h:Good G X p a b S) (hW:Sol G X p W) (ha:Sz X a) (d:Sz X b) (v:Int):S v↔W v:=by
 constructor
 .intro c
  exact zJ λhn=>h.yours _ hW.yours (d.sub (λv c=>c.1) (yE _)) v ⟨h.sub v c,hn⟩ c
 .intro c
  exact h.mine W hW.mine (ha.sub hW.sub (yE _)) v c
end
end
end Go.Proofs.YtgbippnfaoedmaaGreatDoor.Par
namespace Go.Proofs.YtgbippnfaoedmaaGreatDoor
open Go Go.Wk Go.Proofs
section
open Classical
theorem pA {K V:Type} [DecidableEq K]:∀(xs:List (K×V)) (k k':K) (v:V),getK (putK xs k v) k'=if k'=k then some v else getK xs k'
 | [],k,k',v=>by simp[putK,getK]
 |p::r,k,k',v=>by
  simp only[putK]
  by_cases b:k=p.1
  .subst b
   rw[if_pos rfl]
   simp only[getK]
   split <;> rfl
  .rw[if_neg b]
   simp only[getK]
   by_cases a:k'=p.1
   .rw[if_pos a,if_pos a,if_neg (λc=>b (c.symm.trans a))]
   .rw[if_neg a,if_neg a,pA r k k' v]
noncomputable def lst (n:Nat) (D:Int->Prop):VI:=((Am n).map zK).filter λv=>decide (D v)
theorem ir {n:Nat}(v:Int):v∈(Am n).map zK↔0<=v/\v<n:=by
 rw[List.mem_map]
 constructor
 .rintro⟨w,a,rfl⟩
  rw[zX]at a
  exact⟨Ai w,by show(w:Int)<n;omega⟩
 .rintro⟨b,c⟩
  obtain⟨w,a⟩:=bA b
  subst a
  exact⟨w,zX.2 (by omega),rfl⟩
theorem bB {n:Nat}{D:Int->Prop}(v:Int):v∈lst n D↔(0<=v/\v<n)/\D v:=by
 unfold lst
 rw[zV,ir,decide_eq_true_iff]
theorem je {n:Nat}{D:Int->Prop}:(lst n D).length<=n:=Ae (zR _ _) (by simp)
theorem tJ (n:Nat):Asc ((Am n).map zK):=by
 rw[Asc,List.pairwise_map]
 exact List.pairwise_lt_range.imp λh=>by
  show(_:Int)<_
  exact Int.ofNat_lt.2 h
theorem nH {n:Nat}{X:VI}(h:Asc X) (hX:∀v∈X,0<=v/\v<n):X.length<=n:=cF n X (cH h) hX
section
variable {g:Parity}{n:Nat}(h:GOk g n)
include h
theorem vO {D S:Int->Prop}(e:∀v,D v->0<=v/\v<n) (f:Aq (gI g) D) (p:Bool):∃A,Par.IsAttr (gI g) D p S A:=by
 have hn:=h.n256
 have d:(λv=>v∈lst n D)=D:=funext λv=>propext ⟨λa=>((bB v).1 a).2,λa=>(bB v).2 ⟨e v a,a⟩⟩
 obtain⟨A,_,_,_,_,c⟩:=fk h (X:=lst n D) (λv b=>((bB v).1 b).1) (by have:=je (n:=n) (D:=D);omega) (S:=lst n S) (λv b=>((bB v).1 b).1) (by have:=je (n:=n) (D:=S);omega) (by rw[d];exact f) p
 rw[d]at c
 exact⟨_,c.congrS λv b=>⟨λa=>((bB v).1 a).2,λa=>(bB v).2 ⟨e v b,a⟩⟩⟩
theorem xk {D:Int->Prop}(d:∀v,D v->0<=v/\v<n) (e:Aq (gI g) D) (p:Bool):∃W,Ar (gI g) D p W:=by
 have b:(λv=>v∈lst n D)=D:=funext λv=>propext ⟨λa=>((bB v).1 a).2,λa=>(bB v).2 ⟨d v a,a⟩⟩
 obtain⟨_,_,W,_,c,_⟩:=oS h (L:=lst n D) (λv f=>((bB v).1 f).1) (by rw[b];exact e)
 rw[b]at c
 exact⟨_,c.asP p⟩
theorem lg {X:VI}(hX:∀v∈X,0<=v/\v<n) (hl:X.length<=100000) (d:Int):gi g X d=some (X.filter λv=>decide ((gI g).pri v=d)):=by
 have q:=h.lp
 obtain⟨e,i,j⟩:=ba (f:=ez g X d) (λa (e:VI)=>e=(X.take a).filter λv=>decide ((gI g).pri v=d)) X.length (s:=[]) (by simp) (λa e k m=>by
  subst m
  have c:X[a]? =some X[a]:=nx k
  generalize X[a]=u at c
  obtain⟨o,r⟩:=hX u (ze c)
  have l:idx g.Prio u=some ((gI g).pri u):=fR (P:=g.Prio) (v:=u) o (by omega)
  have p:((X.take a).filter λv=>decide ((gI g).pri v=d)).length<=100000:=Ae (zR _ _) (by rw[y8];omega)
  unfold ez
  rw[aS,c,Af,l,Af,bi c,zM]
  by_cases b:(gI g).pri u=d
  .rw[show((gI g).pri u==d)=true from by simp[b],cond_true,app1 (by omega) rfl,Af,Af]
   exact⟨_,rfl,by rw[List.filter_cons_of_pos (by simpa using b)];rfl⟩
  .rw[show((gI g).pri u==d)=false from by simp[b],cond_false,Af]
   exact⟨_,rfl,by rw[List.filter_cons_of_neg (by simpa using b)];simp⟩)
 unfold gi
 rw[i,Af,aU,j,Ac]
theorem om {X:VI}(hX:∀v∈X,0<=v/\v<n) (y:X≠[]):∃d:Int,ip g X=some d/\0<=d/\d<=40/\(∀v∈X,(gI g).pri v<=d)/\∃v∈X,(gI g).pri v=d:=by
 have C:=h.lp
 obtain⟨a,r,j,s⟩:=ba (f:=eJ g X) (λc (a:Int)=>(∀v∈X.take c,(gI g).pri v<=a)/\((a= -1/\c=0)\/(0<=a/\a<=40/\∃v∈X,(gI g).pri v=a))) X.length (s:=(-1:Int)) ⟨λv b=>by simp at b,.inl ⟨rfl,rfl⟩⟩ (λc a x ⟨z,A⟩=>by
  have e:X[c]? =some X[c]:=nx x
  generalize X[c]=u at e
  have k:=ze e
  obtain⟨B,D⟩:=hX u k
  have m:idx g.Prio u=some ((gI g).pri u):=fR (P:=g.Prio) (v:=u) B (by omega)
  obtain⟨o,p⟩:=h.pri _ _ m
  unfold eJ
  rw[aS,e,Af,m,Af,bi e]
  refine⟨_,rfl,λv b=>?_,.inr ?_⟩
  .rcases yu.1 b with b|b
   .have:=z v b
    split <;> omega
   .rw[yw]at b
    subst b
    split <;> omega
  .by_cases l:a<(gI g).pri u
   .rw[if_pos l];exact⟨o,p,u,k,rfl⟩
   .rw[if_neg l]
    rcases A with ⟨i,_⟩|h
    .omega
    .exact h)
 unfold ip
 rw[r,Af,aU]
 rw[Ac]at j
 rcases s with ⟨_,i⟩|⟨q,t,w⟩
 .exact absurd (zQ.1 i) y
 .exact⟨a,rfl,q,t,j,w⟩
end
end
section
open Classical
theorem Par.Rds.snoc {G:Par.Gm}{p:Bool}{a b:Nat}{X Y Z:Int->Prop}(h:Par.Rds G p a b X Y) (c:Par.Rd G p a b Y Z):Par.Rds G p a b X Z:=by
 induction h with
 |nil=>exact .cons c .nil
 |cons h _ d=>exact .cons h (d c)
def bitsN (X:VI):Nat:=X.foldl (λa v=>a ||| 2 ^ v.toNat) 0
theorem pw (X:VI) (v:Int):bitsN (X++[v])=bitsN X ||| 2 ^ v.toNat:=by unfold bitsN;rw[List.foldl_append];rfl
theorem lN:∀(k:Nat) (X:VI),X.length=k->(∀v∈X,0<=v/\v<12)->bitsN X<2 ^ 12/\∀j:Nat,(bitsN X).testBit j=true↔(j:Int)∈X:=by
 intro k
 induction k with
 |zero=>
  intro X a _
  rw[zQ.1 a]
  exact⟨by decide,λj=>by simp[bitsN]⟩
 |succ k g=>
  intro X a hX
  have c:X≠[]:=λb=>by rw[b]at a;cases a
  rw[← List.dropLast_concat_getLast c]at hX ⊢
  generalize X.getLast c=v at hX ⊢
  have hl:X.dropLast.length=k:=by rw[List.length_dropLast];omega
  generalize X.dropLast=L at hX hl ⊢
  obtain⟨e,f⟩:=g L hl λw d=>hX w (zT _ d)
  obtain⟨i,l⟩:=hX v (by simp)
  rw[pw]
  refine⟨Nat.or_lt_two_pow e (Nat.pow_lt_pow_right (by decide) (by omega)),λj=>?_⟩
  rw[Nat.testBit_or,Bool.or_eq_true,f,Nat.testBit_two_pow,decide_eq_true_iff,yu,yw]
  exact or_congr Iff.rfl ⟨λb=>by omega,λb=>by omega⟩
theorem uw {X Y:VI}(hX:∀v∈X,0<=v/\v<12) (d:∀v∈Y,0<=v/\v<12) (g:Asc X) (i:Asc Y) (e:bitsN X=bitsN Y):X=Y:=by
 obtain⟨_,b⟩:=lN _ X rfl hX
 obtain⟨_,c⟩:=lN _ Y rfl d
 refine mF g i λf=>?_
 constructor
 .intro a
  have:=hX f a
  obtain⟨j,rfl⟩:=bA this.1
  rw[← c,← e,b];exact a
 .intro a
  have:=d f a
  obtain⟨j,rfl⟩:=bA this.1
  rw[← b,e,c];exact a
theorem tU {X:VI}(hX:∀v∈X,0<=v/\v<12):cntM (ca X) X.length 0 0=some (.inr (bitsN X:Int)):=by
 obtain⟨d,e,g⟩:=ba (f:=ca X) (λa (d:Int)=>d=(bitsN (X.take a):Int)) X.length (s:=(0:Int)) rfl (λa d j k=>by
  subst k
  have b:X[a]? =some X[a]:=nx j
  generalize X[a]=u at b
  obtain⟨o,q⟩:=hX u (ze b)
  obtain⟨c,rfl⟩:=bA o
  obtain⟨m,n⟩:=wF (x:=1) (j:=c) (by omega) (by omega) (by omega)
  obtain⟨p,_⟩:=lN _ (X.take a) rfl λv l=>hX v (List.mem_of_mem_take l)
  have hp:(2:Nat) ^ c<2 ^ 12:=Nat.pow_lt_pow_right (by decide) (by omega)
  have i:(1 * 2 ^ c:Int)=((2 ^ c:Nat):Int):=by push_cast;omega
  unfold ca
  rw[aS,b,Af,m,Af,n,i,bor (by omega) (by omega) (Ai _) (Int.lt_of_lt_of_le (Int.ofNat_lt.2 hp) (by decide)),bi b,pw]
  exact⟨_,rfl,by simp only[Aj]⟩)
 rw[e,g,Ac]
theorem qT {X Y:VI}(hX:Asc X) (b:Asc Y) (c:∀v∈Y,v∈X) (hl:Y.length=X.length) (v:Int) (d:v∈X):v∈Y:=by
 refine zJ λhn=>?_
 have:=gl (xs:=v::Y) (ys:=X) (List.nodup_cons.2 ⟨hn,cH b⟩) λe a=>by
  rcases List.mem_cons.1 a with rfl|a
  .exact d
  .exact c e a
 rw[List.length_cons]at this
 omega
section
variable {g:Parity}{n:Nat}(h:GOk g n) (hn:n<=12)
def EntOk (g:Parity) (n:Nat) (q:query) (S:VI):Prop:=∃(X:VI) (p:Bool) (a b:Nat),Asc X/\(∀v∈X,0<=v/\v<n)/\q.in0=(bitsN X:Int)/\q.who=b2i p/\q.mine=(a:Int)/\q.yours=(b:Int) /\
 Asc S/\(∀v∈S,v∈X)/\Par.Good (gI g) (·∈X) p a b (·∈S)
def TabOk (g:Parity) (n:Nat) (m:List (query×VI)):Prop:=∀b a,getK m b=some a->EntOk g n b a
def AskOk (g:Parity) (n:Nat) (rc:asker->VI->Int->Int->Int->Int->Option (VI×List (query×VI))) (D:Int):Prop:=
 ∀(e:List (query×VI)) (X:VI) (p:Bool) (c d:Nat) (a:Int),TabOk g n e->Asc X->(∀v∈X,0<=v/\v<n)->Aq (gI g) (·∈X)->(∀v∈X,(gI g).pri v<=a)->As a=p->0<=a->a<=D->c<=100->d<=100 ->
  ∃b f,rc ⟨g,e⟩ X (b2i p) a c d=some (b,f)/\TabOk g n f/\Asc b/\(∀v∈b,v∈X)/\Par.Good (gI g) (·∈X) p c d (·∈b)
variable {rc:asker->VI->Int->Int->Int->Int->Option (VI×List (query×VI))}{D:Int}
include h
theorem rM (M:AskOk g n rc (D-1)){m:List (query×VI)}{X:VI}{p:Bool}{a b:Nat}{d:Int}(y:TabOk g n m) (i:Asc X) (hX:∀v∈X,0<=v/\v<n) (e:Aq (gI g) (·∈X)) (o:∀v∈X,(gI g).pri v<=d) (hp:As d=p) (ae:0<=d) (af:d<=D) (ag:d<=100) (ha:a<=100) (K:b<=100):
 ∃Y q,dp rc ⟨g,m⟩ X (b2i p) d a b=some (Y,q)/\TabOk g n q/\Asc Y/\(∀v∈Y,v∈X)/\Par.Rd (gI g) p a b (·∈X) (·∈Y):=by
 have hn:=h.n256
 have aj:=nH i hX
 have L:∀v∈X,0<=(gI g).pri v:=λv c=>by
  obtain⟨Z,am⟩:=hX v c
  exact(h.pri _ _ (fR (P:=g.Prio) (v:=v) Z (by have:=h.lp;omega))).1
 unfold dp
 by_cases z:d=0
 .subst z
  have:p=false:=by rw[← hp];decide
  subst this
  rw[show((0:Int)==0)=true from rfl,cond_true,appL (by rw[zS];omega) rfl,Af,zz]
  exact⟨X,m,rfl,y,i,λ_ c=>c,Par.Rd.low e λv c=>by have:=o v c;have:=L v c;omega⟩
 .rw[show(d==0)=false from by simp[z],cond_false]
  dsimp only
  rw[lg h hX (by omega),Af]
  have I:∀v∈X.filter λv=>decide ((gI g).pri v=d),0<=v/\v<n:=λv c=>hX v (zV.1 c).1
  obtain⟨A,C,E,ac,ad,F⟩:=fk h hX (by omega) I (Ae (zR _ _) (by omega)) e p
  rw[C,Af,kN E (by omega) (by omega),Af]
  have j:Par.IsAttr (gI g) (·∈X) p (λv=>(gI g).pri v=d) (·∈A):=F.congrS λv c=>by
   rw[zV,decide_eq_true_iff];exact⟨λr=>r.2,λr=>⟨c,r⟩⟩
  have t:(λv=>v∈X.filter λf=> !decide (f∈A))=Par.Mn (·∈X) (·∈A):=funext λv=>propext (by
   rw[zV];unfold Par.Mn;simp)
  have aa:zr .i64 (1-b2i p)=b2i (!p):=by cases p <;> rfl
  have ab:zr .i64 (d-1)=d-1:=wr' (by omega) (by omega)
  obtain⟨s,q,N,O,Q,T,B⟩:=M m (X.filter λf=> !decide (f∈A)) (!p) b a (d-1) y (i.filter _) (λv c=>hX v (zV.1 c).1) (by rw[t];exact e.less j) (λv c=>by
   have u:=(zV.1 c).1
   have ah:=o v u
   have ai:¬(gI g).pri v=d:=λG=>by
    have:=j.base v u G
    have w:=(zV.1 c).2
    simp only[Bool.not_eq_true',decide_eq_false_iff_not]at w
    exact w this
   omega) (by rw[← hp];unfold As;rw[← decide_not];exact decide_eq_decide.2 (by omega)) (by omega) (by omega) K ha
  rw[t]at B
  have x:∀v∈s,v∈X:=λv c=>(zV.1 (T v c)).1
  rw[aa,ab,N,Af]
  obtain⟨R,U,V,ak,al,W⟩:=fk h hX (by omega) (S:=s) (λv c=>hX v (x v c)) (by have:=nH Q (λv c=>hX v (x v c));omega) e (!p)
  dsimp only
  rw[U,Af,kN V (by omega) (by omega),Af]
  refine⟨_,_,rfl,O,i.filter _,λv c=>(zV.1 c).1,?_⟩
  have H:(λv=>v∈X.filter λf=> !decide (f∈R))=Par.Mn (·∈X) (·∈R):=funext λv=>propext (by
   rw[zV];unfold Par.Mn;simp)
  rw[H]
  exact Par.Rd.of e o hp j B W (λD k l=>vO h (λv c=>hX v (k v c)) l p) (λD k l=>xk h (λv c=>hX v (k v c)) l p)
theorem pM (I:AskOk g n rc (D-1)){m:List (query×VI)}{X:VI}{p:Bool}{a b:Nat}{d:Int}(H:TabOk g n m) (t:Asc X) (hX:∀v∈X,0<=v/\v<n) (E:Aq (gI g) (·∈X)) (G:∀v∈X,(gI g).pri v<=d) (hp:As d=p) (z:0<=d) (A:d<=D) (B:d<=100) (ha:a<=100) (F:b<=100):
 ∃Y r,cK rc ⟨g,m⟩ X (b2i p) d a b=some (Y,r)/\TabOk g n r/\Asc Y/\(∀v∈Y,v∈X)/\Aq (gI g) (·∈Y)/\Par.Rds (gI g) p a b (·∈X) (·∈Y)/\Par.Rd (gI g) p a b (·∈Y) (·∈Y):=by
 have hn:=h.n256
 have V:=nH t hX
 obtain⟨K,L,M⟩:=bI (f:=cD rc ⟨g,m⟩ (b2i p) d a b) (λu (i:VI×List (query×VI))=>TabOk g n i.2/\Asc i.1/\(∀v∈i.1,v∈X)/\Aq (gI g) (·∈i.1)/\Par.Rds (gI g) p a b (·∈X) (·∈i.1)/\u+i.1.length<=n)
  (λe=>TabOk g n e.2/\Asc e.1/\(∀v∈e.1,v∈X)/\Aq (gI g) (·∈e.1)/\Par.Rds (gI g) p a b (·∈X) (·∈e.1)/\Par.Rd (gI g) p a b (·∈e.1) (·∈e.1)) (λ_=>False) n (λu i ⟨w,s,j,x,o,N⟩=>by
   obtain⟨Y,r⟩:=i
   dsimp only at w s j x o N
   obtain⟨Z,W,U,y,q,k,l⟩:=rM h I w s (λv c=>hX v (j v c)) x (λv c=>G v (j v c)) hp z A B ha F
   unfold cD
   dsimp only
   rw[U,Af]
   dsimp only
   by_cases hl:Z.length=Y.length
   .rw[show((Z.length:Int)==(Y.length:Int))=true from by simp[hl],cond_true]
    have C:(λv=>v∈Y)=λv=>v∈Z:=funext λv=>propext ⟨λc=>qT s q k hl v c,k v⟩
    rw[C]at o l
    exact⟨_,rfl,y,q,λv c=>j v (k v c),l.dead,o,l⟩
   .rw[show((Z.length:Int)==(Y.length:Int))=false from by simp;omega,cond_false]
    have:=gl (cH q) k
    exact⟨_,rfl,by omega,y,q,λv c=>j v (k v c),l.dead,o.snoc l,by dsimp only;omega⟩) (2 ^ 64) 0 (X,m) (by omega) ⟨H,t,λ_ c=>c,E,.nil,by dsimp only;omega⟩ (by decide)
 unfold cK
 dsimp only
 rw[L,Af]
 match K,M with
 |.inl e,⟨O,P,Q,R,S,T⟩=>exact⟨e.1,e.2,rfl,O,P,Q,R,S,T⟩
include hn
theorem tR:∀(k:Nat) (D:Int),D<k->D<=100->AskOk g n (cI k) D:=by
 intro k
 induction k with
 |zero=>intro D aB aC l X p c b j _ _ _ _ _ _ o q;omega
 |succ k al=>
  intro D aD y l X p c b j r x hX ag A hp o q ha ah
  have B:=al (D-1) (by omega) (by omega)
  have z:∀v∈X,0<=v/\v<12:=λv a=>by have:=hX v a;omega
  show ∃d u,cJ (cI k) ⟨g,l⟩ X (b2i p) j c b=some (d,u)/\_
  unfold cJ
  rw[show(bif ((X.length:Int)==0) then some true else some ((c:Int)==0))=some (((X.length:Int)==0)||((c:Int)==0)) from orE _ _,Af]
  by_cases t:X=[]\/c=0
  .have:(((X.length:Int)==0)||((c:Int)==0))=true:=by
    rcases t with e|e <;> simp[e]
   rw[this,cond_true]
   refine⟨[],l,rfl,r,List.Pairwise.nil,λv a=>(yx a).elim,λv a=>(yx a).elim,λD' y M v a=>?_,λD' y M v a ak=>(yx ak).elim⟩
   rcases t with e|e
   .obtain⟨aH,C,_⟩:=y
    have:=C v a
    rw[e]at this
    cases this
   .subst e;exact(M.zero v a).elim
  .have:(((X.length:Int)==0)||((c:Int)==0))=false:=by
    rw[Bool.or_eq_false_iff]
    exact⟨by simp;exact λe=>t (.inl (by simpa using e)),by simp;exact λe=>t (.inr (by omega))⟩
   rw[this,cond_false,tU z,Af,aU]
   obtain⟨aA,_⟩:=lN _ X rfl z
   have L:kwquery ⟨(bitsN X:Int),b2i p,j,c,b⟩=true:=by
    have:=nV p
    simp only[kwquery,wf5,in64,rx,decide_eq_true_iff]
    omega
   dsimp only
   unfold mget
   rw[if_pos L,Af]
   cases ai:getK l ⟨(bitsN X:Int),b2i p,j,c,b⟩ with
   |some d=>
    dsimp only
    rw[cond_true]
    obtain⟨X',N,S,T,U,V,W,F,aa,ab,ac,ad,ae⟩:=r _ _ ai
    dsimp only at W F aa ab
    have:X'=X:=uw (λv a=>by have:=V v a;omega) z U x (by omega)
    subst this
    have:N=p:=by revert F;cases p <;> cases N <;> simp[b2i]
    subst this
    have:S=c:=by omega
    subst this
    have:T=b:=by omega
    subst this
    exact⟨d,l,rfl,r,ac,ad,ae⟩
   |none=>
    dsimp only
    rw[cond_false]
    have aj:zr .i64 (Int.tdiv (b:Int) 2)=((b / 2:Nat):Int):=by
     rw[vA (by omega),wr' (by omega) (by omega)];omega
    rw[aj]
    obtain⟨Y,aF,aw,ax,O,f,ay,P,Q⟩:=pM h B (b:=b / 2) r x hX ag A hp o (D:=D) q (by omega) ha (by omega)
    rw[aw,Af]
    obtain⟨Z,am,az,R,w,i,E⟩:=rM h B (b:=b) ax O (λv a=>hX v (f v a)) ay (λv a=>A v (f v a)) hp o (D:=D) q (by omega) ha ah
    dsimp only
    rw[az,Af]
    dsimp only
    have aE:=gl (cH w) i
    have K:∀(d:VI) (m:List (query×VI)),TabOk g n m->Asc d->(∀v∈d,v∈X)->Par.Good (gI g) (·∈X) p c b (·∈d)->∃S' u,(zm (mset kwquery m ⟨(bitsN X:Int),b2i p,j,c,b⟩ d) λav=>some (d,av))=some (S',u)/\TabOk g n u/\Asc S'/\(∀v∈S',v∈X)/\Par.Good (gI g) (·∈X) p c b (·∈S'):=λd m af G H I=>by
     unfold mset
     rw[if_pos L,Af]
     refine⟨_,_,rfl,λan S' s=>?_,G,H,I⟩
     rw[pA]at s
     split at s
     .rename_i e
      cases s
      subst e
      exact⟨X,p,c,b,x,hX,rfl,rfl,rfl,rfl,G,H,I⟩
     .exact af an S' s
    by_cases hl:Z.length<Y.length
    .rw[decide_eq_true (by omega:(Z.length:Int)<Y.length),cond_true]
     obtain⟨d,m,C,ao,ap,aq,aG,ar,au⟩:=pM h B (b:=b / 2) R w (λv a=>hX v (f v (i v a))) E.dead (λv a=>A v (f v (i v a))) hp o (D:=D) q (by omega) ha (by omega)
     rw[C,Af,Af]
     exact K d m ao ap (λv a=>f v (i v (aq v a))) (Par.Good.of P Q E (.inr ⟨ar,au⟩))
    .rw[decide_eq_false (by omega:¬(Z.length:Int)<Y.length),cond_false,Af]
     exact K Z am R w (λv a=>f v (i v a)) (Par.Good.of P Q E (.inl ⟨λv a=>qT O w i (by omega) v a,rfl⟩))
end
end
section
open Classical
theorem fv {g:Parity}(hp:bC g=true) (hn:g.Prio.length<=12):d7 g=some true:=by
 unfold d7
 rw[gv,hp,Af,cond_true,Af,decide_eq_true (by omega:(g.Prio.length:Int)<=12)]
theorem qR {g:Parity}(hp:bC g=true) (H:0<g.Prio.length) (hn:g.Prio.length<=12){W:Int->Prop}(hW:Ar (gI g) (Xn g.Prio.length) false W):iD g=some (wonL g.Prio.length W):=by
 have h:=GOk.of hp
 generalize hnn:g.Prio.length=n at h H hn hW
 have I:=eN h (gp hp)
 have w:(λv=>v∈(Am n).map zK)=Xn n:=funext λv=>propext (ir v)
 obtain⟨a,S,B,T,U,ad⟩:=om h (X:=(Am n).map zK) (λv d=>(ir v).1 d) (by
  intro c
  have:=congrArg List.length c
  simp at this
  omega)
 obtain⟨e,P,z,aa,ab,ac,A⟩:=tR h hn (2 ^ 64) 40 (by omega) (by omega) [] ((Am n).map zK) (As a) n n a (λj e M=>by cases M) (tJ n) (λv d=>(ir v).1 d) (by rw[w];exact I) U rfl B T (by omega) (by omega)
 rw[w]at A
 have x:Par.Sz (Xn n) n:=⟨(Am n).map zK,by simp,λv d=>(ir v).2 d⟩
 have o:∀v,v∈e↔Xn n v/\(W v↔As a=false):=λv=>A.sol (hW.asP (As a)) x x v
 have b:Int.tmod a 2=b2i (As a):=jO B
 generalize As a=p at z o b
 have K:((Am n).map zK).length=n:=by simp
 obtain⟨R0,D,E,s⟩:=fill (f:=gx a) (λ_=>zr .i64 (1-Int.tmod a 2)) n (s0:=zf n 0) (by simp) (λk l y r=>rfl)
 have N:zr .i64 (1-Int.tmod a 2)=b2i (!p):=by rw[b];cases p <;> rfl
 rw[N]at s
 obtain⟨R,F,G,t⟩:=ba (f:=eh a (e,P)) (λk (l:VI)=>l.length=n/\∀v:Nat,v<n->idx l (v:Int)=some (if(v:Int)∈e.take k then b2i p else b2i (!p))) e.length (s:=R0) ⟨E,λv d=>by rw[s v d];simp⟩ (λk l y ⟨Y,Q⟩=>by
  have q:e[k]? =some e[k]:=nx y
  generalize e[k]=u at q
  obtain⟨C,ae⟩:=((o u).1 (ze q)).1
  obtain⟨V,L⟩:=bg (xs:=l) (i:=u) C (by omega)
  obtain⟨Z,r,hl⟩:=bj (xs:=l) (i:=u) (Int.tmod a 2) C (by omega)
  unfold eh
  dsimp only
  rw[aS,q,Af,L,Af,r,Af,bi q]
  refine⟨_,rfl,by omega,λv d=>?_⟩
  rw[bp r,Q v d,b]
  by_cases c:(v:Int)=u
  .rw[if_pos c,if_pos (by simp[c])]
  .rw[if_neg c]
   by_cases m:(v:Int)∈e.take k
   .rw[if_pos m,if_pos (by simp[m])]
   .rw[if_neg m,if_neg (by simp[c,m])])
 rw[Ac]at t
 unfold iD jS
 rw[fv hp (by omega),Af,zG,cond_false,kc (by rw[h.lo];omega),h.lo,Af,S,Af,K,bL (by omega) rfl,Af,yZ,D,Af,aU,Af,b,z,Af]
 dsimp only
 rw[F,Af,aU]
 congr 1
 refine lb G λv d=>?_
 rw[← aS,t v d]
 congr 1
 by_cases c:(v:Int)∈e
 .rw[if_pos c]
  have:=((o v).1 c).2
  congr 1
  cases p
  .have b:=this.2 rfl;simp[b]
  .have b:¬W (v:Int):=λj=>by cases this.1 j
   simp[b]
 .rw[if_neg c]
  have O:Xn n (v:Int):=⟨by omega,by omega⟩
  have:¬(W (v:Int)↔p=false):=λj=>c ((o v).2 ⟨O,j⟩)
  congr 1
  cases p
  .have b:¬W (v:Int):=λj=>this (by simp[j])
   simp[b]
  .have b:W (v:Int):=zJ λj=>this (by simp[j])
   simp[b]
end
end Go.Proofs.YtgbippnfaoedmaaGreatDoor
