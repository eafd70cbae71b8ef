/- The loop that makes a machine, as either side runs it. Plain law. -/
import Derived.Test.YtldlmopdhmaceaaGreatDoorL2BE
import Derived.Test.YtldlmopdhmaceaaGreatDoorL0BE
import Derived.Test.YtldlmopdhmaceaaGreatDoorL1BE
import Derived.Test.YtldlmopdhmaceaaGreatDoorCmpBE
set_option linter.unusedVariables false
set_option linter.unusedSimpArgs false
open Bool renaming and_eq_true → ra, not_false → GB, not_true → F7
open Classical renaming byContradiction → F9
open Int renaming toNat_natCast → Gb
open List renaming all_eq_true → Gc, append_assoc → Fo, append_nil → G7, filter_append → GF, filter_cons → Ge, getD_eq_getElem?_getD → bR, getElem?_append_left → Fw, getElem?_append_right → Fx, getElem?_eq_getElem → ct, getElem?_eq_none → GG, getElem?_eq_some_iff → C7, getElem?_map → FA, getElem?_of_mem → Gf, getElem?_range → G8, getElem?_replicate → GH, length_append → C9, length_cons → E1, length_map → Gg, length_nil → Gh, length_range → GK, length_take → FE, map_append → FF, mem_append → E4, mem_cons → E5, mem_cons_of_mem → FG, mem_filter → Gj, mem_map → FH, mem_of_getElem? → FI, mem_range → GM, mem_reverse → G9, mem_singleton → E7, mem_zipIdx_iff_getElem? → Gl, mergeSort_perm → Ha, nil_append → G0, nodup_append → Gq, nodup_cons → GN, pairwise_map → Hb, range → GO, range_succ → GP, replicate → FK, take_add_one → Gv, take_length → Gx
open Nat renaming le_refl → Fg, not_lt_zero → Gy, zero_le → Gz
open Option renaming bind → FR, bind_some → GA, getD_some → Hc
open Option.some renaming inj → GS
open Go.Proofs.YtldlmopdhmaceaaGreatDoor.Par renaming Io → Hd
namespace Go.Proofs.YtldlmopdhmaceaaGreatDoor
open Go Go.Wk Go.Proofs
def stM (d:Det) (n m k:Nat) (P:VL) (g:Parity) (pk:VI) (j:Nat):VI×Int×VV×VV:=((itM d n m k P g pk j).1,(j:Int),(itM d n m k P g pk j).2.1,(itM d n m k P g pk j).2.2)
section
variable {d:Det}{n m k:Nat}{A:Arena}{P:VL}{g:Parity}{W:Int->Prop}{pk:VI}(h:Cx d n m k A P g W pk) (h0:wB W 0=false)
include h h0
theorem CS {j:Nat}(hj:∀i,i<j->i<(itM d n m k P g pk i).1.length) (f:j<(itM d n m k P g pk j).1.length):∃x v q a,(itM d n m k P g pk j).1[j]? =some x/\idx P x=some v/\v.At=((q:Nat):Int)/\q<n/\wB W x=false/\idx g.Arena.Next x=some a/\(itM d n m k P g pk j).1.length<=256 /\
 stM d n m k P g pk (j+1)=((du (fM pk P a n m q) (itM d n m k P g pk j).1 m).1,((j+1:Nat):Int),(itM d n m k P g pk j).2.1++[(du (fM pk P a n m q) (itM d n m k P g pk j).1 m).2],(itM d n m k P g pk j).2.2++[(GO m).map (oM d pk P a n m k q)]):=by
 obtain⟨_,_,_,z,_,_⟩:=h.len
 have b:=gT h h0 j hj
 have y:=b.nm.len
 have o:(itM d n m k P g pk j).1[j]? =some ((itM d n m k P g pk j).1[j]):=ct f
 have u:(itM d n m k P g pk j).1.getD j 0=(itM d n m k P g pk j).1[j]:=by rw[bR,o];rfl
 have r:=List.getElem_mem f
 obtain⟨s,p⟩:=b.all _ r
 obtain⟨v,c,_,_⟩:=h.place (b.nm.2 _ r)
 have e:=dR c
 rw[e]at p
 obtain⟨q,a,t,w,l,_⟩:=vo h c p s
 refine⟨_,v,q,a,o,c,t,w,s,l,by omega,?_⟩
 unfold stM
 rw[show itM d n m k P g pk (j+1)=((du (fM pk P (cX g.Arena ((itM d n m k P g pk j).1.getD j 0)) n m (atP P ((itM d n m k P g pk j).1.getD j 0)).toNat) (itM d n m k P g pk j).1 m).1,(itM d n m k P g pk j).2.1++[(du (fM pk P (cX g.Arena ((itM d n m k P g pk j).1.getD j 0)) n m (atP P ((itM d n m k P g pk j).1.getD j 0)).toNat) (itM d n m k P g pk j).1 m).2],(itM d n m k P g pk j).2.2++[(GO m).map (oM d pk P (cX g.Arena ((itM d n m k P g pk j).1.getD j 0)) n m k (atP P ((itM d n m k P g pk j).1.getD j 0)).toNat)]) from rfl]
 rw[u,dV l,e,show v.At.toNat=q by omega]
theorem D8 {t:Type}{f:VI×Int×VV×VV->Option (t⊕((VI×Int×VV×VV)⊕(VI×Int×VV×VV)))}(c:∀j,(∀i,i<j->i<(itM d n m k P g pk i).1.length)->f (stM d n m k P g pk j)=some (if j<(itM d n m k P g pk j).1.length then .inr (.inr (stM d n m k P g pk (j+1))) else .inr (.inl (stM d n m k P g pk j)))):
 ∃j:Nat,(∀i,i<j->i<(itM d n m k P g pk i).1.length)/\j=(itM d n m k P g pk j).1.length/\ci f (2 ^ 64) ([0],0,[],[])=some (.inr (stM d n m k P g pk j)):=by
 obtain⟨_,_,_,x,_,_⟩:=h.len
 obtain⟨p,q,r⟩:=cZ (f:=f) (λj s=>s=stM d n m k P g pk j/\∀i,i<j->i<(itM d n m k P g pk i).1.length) (λ_=>False)
  (λs=>∃j:Nat,s=stM d n m k P g pk j/\(∀i,i<j->i<(itM d n m k P g pk i).1.length)/\j=(itM d n m k P g pk j).1.length) 256 (λj s ⟨a,hj⟩=>by
  subst a
  have w:=(gT h h0 j hj).nm.len
  by_cases b:j<(itM d n m k P g pk j).1.length
  .rw[c j hj,if_pos b]
   refine⟨_,rfl,by omega,rfl,λi e=>?_⟩
   by_cases a:i=j
   .subst a;exact b
   .exact hj i (by omega)
  .rw[c j hj,if_neg b]
   refine⟨_,rfl,j,rfl,hj,?_⟩
   cases j with
   |zero=>exact absurd (by show 0 < [(0:Int)].length;simp) b
   |succ j=>
    have u:=hj j (by omega)
    have v:=Bv d n m k P g pk (show j<=j+1 by omega)
    omega) (2 ^ 64) 0 ([0],0,[],[]) (by omega) ⟨rfl,λi e=>absurd e (Gy i)⟩ (by omega)
 match p,r with
 |.inr s,⟨j,a,l,o⟩=>exact⟨j,l,o,by rw[q,a]⟩
end
section
variable {p:Sig}(hs:sigOk p=true){d:Det}(hd:detOk p d=true) (hpb:∀x∈d.Pairs,x.Ask.length<=1000000000/\x.Give.length<=1000000000){n m k:Nat}{A:Arena}{P:VL}{g:Parity}{W:Int->Prop}{pk wn:VI}(h:Cx d n m k A P g W pk) (hm:pw p.In=(m:Int)) (hk:pw p.Out=(k:Int)) (h0:wB W 0=false)
include h hs hd hpb hm hk h0
theorem DX:∃j:Nat,(∀i,i<j->i<(itM d n m k P g pk i).1.length)/\j=(itM d n m k P g pk j).1.length/\ci (iK p (d,true) (g,P,true) ⟨wn,pk⟩) (2 ^ 64) ([0],0,[],[])=some (.inr (stM d n m k P g pk j)):=by
 have X:=h.m1
 have Y:=h.m4
 have G:rng (m:Int)=some ():=by unfold rng;rw[if_pos (by omega)]
 have C:Int.toNat ((m:Int)-0)=m:=by omega
 refine D8 h h0 λj hj=>?_
 have b:=gT h h0 j hj
 have R:=b.nxl
 have U:=b.oul
 have V:=b.nm.len
 have W:=h.len.2.2.2.1
 unfold iK stM
 dsimp only
 by_cases e:j<(itM d n m k P g pk j).1.length
 .obtain⟨x,v,q,a,w,u,E,t,I,l,hl,r⟩:=CS h h0 hj e
  obtain⟨K,ad,T,_,o,_,A,B⟩:=vo h u (by omega) I
  have:q=K:=by omega
  subst this
  rw[l]at o
  cases o
  have D:∀j:Nat,((GO j).map (oM d pk P a n m k q)).length=j:=λj=>by rw[Gg,GK]
  rw[if_pos e]
  unfold stM at r
  rw[r]
  generalize itM d n m k P g pk j=S at *
  obtain⟨F,Nx,Ou⟩:=S
  dsimp only at *
  have H:cntM (fP p (d,true) (g,P,true) ⟨wn,pk⟩ (F,(j:Int),Nx,Ou) v) m 0 (F,[],[])=some (.inr ((du (fM pk P a n m q) F m).1,(du (fM pk P a n m q) F m).2,(GO m).map (oM d pk P a n m k q))):=by
   obtain⟨s,h1,h2⟩:=cg (f:=fP p (d,true) (g,P,true) ⟨wn,pk⟩ (F,(j:Int),Nx,Ou) v) (λj s=>s=((du (fM pk P a n m q) F j).1,(du (fM pk P a n m q) F j).2,(GO j).map (oM d pk P a n m k q))) m (s:=(F,[],[])) rfl (λi s c z=>by
    subst z
    obtain⟨aa,ab,ac⟩:=po (fM pk P a n m q) F i
    obtain⟨Z,y,ai,L,M,ae,af,N,O,ag,ah,Q,_⟩:=B i c
    unfold fP
    dsimp only
    rw[bT,mM _ _ w,GA,l,GA,h.dl,E,EY hs h hm A t c L,GA,GA,l,GA,bT,M,GA,N,GA,oz,GA,vx _ (by omega),GA]
    dsimp only
    rw[app1 (by omega) rfl,GA,O,GA,DZ hs hd hpb h hm hk t c,GA,Q,GA,app1 (by rw[D];omega) rfl,GA]
    exact⟨_,rfl,by rw[GP,FF];rfl⟩)
   rw[h1,h2]
  rw[decide_eq_true (show(j:Int)<(F.length:Int) by omega),cond_true,bT,w,GA,u,GA,dX hs,hm,GA,G,GA,C,H,GA,bV]
  dsimp only
  rw[app1 (by omega) rfl,GA,app1 (by omega) rfl,GA,wr' (by omega) (by omega)]
  rfl
 .rw[decide_eq_false (by omega),cond_false,if_neg e]
end
structure Stq (p:Sig) (cs:VC) (d:Det) (n m k:Nat) (A:Arena) (P:VL) (g:Parity) (W:Int->Prop) (pk:VI):Prop where
 det:detOk p d=true
 im:pw p.In=(m:Int)
 ok:pw p.Out=(k:Int)
 cx:Cx d n m k A P g W pk
 prd:∃N:Nat,ltd p=N/\PR N cs d
theorem Df {k:Nat}(hk:k<=2){n:Nat}{u v:Place}(d:VOk n k u) (e:VOk n k v) (h:u.At=v.At) (c:u.Record.headD 0=v.Record.headD 0):u=v:=by
 obtain⟨m,l⟩:=u
 obtain⟨r,s⟩:=v
 dsimp only at h c
 subst h
 have a:=d.rl
 have b:=e.rl
 have f:=d.rin
 have g:=e.rin
 have i:=d.nd
 have j:=e.nd
 dsimp only at a b f g i j
 congr 1
 match l,s with
 | [],[]=>rfl
 | [],_::_=>simp at a b;omega
 |_::_,[]=>simp at a b;omega
 | [x],[y]=>simp at c;rw[c]
 | [x],_::_::_=>simp at a b;omega
 |_::_::_,[y]=>simp at a b;omega
 | [x,x'],[y,y']=>
  simp at c i j
  have o:=f x (by simp)
  have p:=f x' (by simp)
  have q:=g y' (by simp)
  have:x'=y':=by omega
  rw[c,this]
 | [_,_],_::_::_::_=>simp at a b;omega
 |_::_::_::_,_=>simp at a;omega
theorem ue {k:Nat}(hk:k<=2){n c:Nat}{P:VL}(hn:P.Nodup) (b:∀v∈P,VOk n k v/\v.At<c):P.length<=2 * c:=by
 have h1:(P.map λv=>2 * v.At+v.Record.headD 0).Nodup:=by
  unfold List.Nodup
  rw[Hb]
  refine List.Pairwise.imp_of_mem (λ{j v} m o l i=>l ?_) hn
  have f:=(b j m).1
  have g:=(b v o).1
  have hd:∀w:Place,VOk n k w->0<=w.Record.headD 0/\w.Record.headD 0<2:=λw p=>by
   have d:=p.rin
   cases a:w.Record with
   |nil=>simp
   |cons x r=>
    have:=d x (by rw[a];simp)
    simp
    omega
  have t:=hd j f
  have u:=hd v g
  exact Df hk f g (by omega) (by omega)
 have:=ez (2 * c) _ h1 λx q=>by
  obtain⟨v,hm,i⟩:=FH.1 q
  obtain⟨e,s⟩:=b v hm
  have:=e.a0
  have d:=e.rin
  subst i
  cases a:v.Record with
  |nil=>simp;omega
  |cons y r=>
   have:=d y (by rw[a];simp)
   simp
   omega
 rwa [Gg]at this
theorem qK {d:Det}{n m k:Nat}{A:Arena}{P:VL}{g:Parity}{W:Int->Prop}{pk:VI}(h:Cx d n m k A P g W pk) (hn:n<=16) (hk:d.Pairs.length<=2){F:VI}(j:Names P.length F) (ha:∀x∈F,atP P x<(n:Int)):F.length<=32:=by
 have i:∀x∈F,∃v,P[x.toNat]? =some v/\idx P x=some v/\0<=x:=λx a=>by
  obtain⟨h0,h1⟩:=j.2 x a
  obtain⟨v,f,_⟩:=g8 (xs:=P) h0 h1
  exact⟨v,by rw[← cN h0];exact f,f,h0⟩
 have h1:(F.map λx=>P.getD x.toNat ⟨0,[]⟩).Nodup:=by
  unfold List.Nodup
  rw[Hb]
  refine List.Pairwise.imp_of_mem (λ{x y} a s r b=>r ?_) j.1
  obtain⟨l,e,_,z⟩:=i x a
  obtain⟨v,o,_,B⟩:=i y s
  rw[bR,bR,e,o,Hc,Hc]at b
  subst b
  obtain⟨u,p⟩:=C7.1 e
  obtain⟨w,q⟩:=C7.1 o
  have:=(List.getElem_inj h.rg.game.nod).1 (p.trans q.symm)
  omega
 have:=ue hk (c:=n) h1 λv f=>by
  obtain⟨x,a,b⟩:=FH.1 f
  obtain⟨l,e,t,_⟩:=i x a
  rw[bR,e,Hc]at b
  subst b
  have:=ha x a
  rw[dR t]at this
  exact⟨h.rg.game.inn l (FI e),this⟩
 rw[Gg]at this
 omega
def mst (c:Clause) (q x:Int):Int:=monNext c.Kind q (decide (x∈c.A)) (decide (x∈c.B))
structure Sm (n:Nat) (D:Det) (c:Clause) (i:Nat) (π:Int->Int):Prop where
 zero:π 0=0
 rng:∀r:Int,0<=r->r<D.Next.length->0<=π r/\π r<monStates c.Kind
 step:∀r x:Int,0<=r->r<D.Next.length->0<=x->x<n->π (tab D.Next r x)=mst c (π r) x
 pair:∃pr,D.Pairs[i]? =some pr/\∀r:Int,0<=r->r<D.Next.length->((r∈pr.Ask↔π r∈(monPair c.Kind).Ask)/\(r∈pr.Give↔π r∈(monPair c.Kind).Give))
def keyAt (K:List Key) (r:Int):Key:=(K[r.toNat]?).getD (0,0)
theorem vt {K:List Key}{r:Int}(a:0<=r) (b:r<K.length):K[r.toNat]? =some (keyAt K r):=by
 have h:K[r.toNat]? =some (K[r.toNat]'(by omega)):=ct (by omega)
 unfold keyAt
 rw[h];rfl
theorem Ej {part:Key->Int}{K:List Key}{S:VI}{r:Int}(c:0<=r) (d:r<K.length):r∈plK part K S K.length↔part (keyAt K r)∈S:=by
 rw[te]
 have hk:=vt c d
 constructor
 .rintro⟨i,h1,h2,v,a,b⟩
  have:r.toNat=i:=by omega
  rw[this,a]at hk
  cases hk
  exact b
 .intro h
  exact⟨r.toNat,by omega,by omega,_,hk,h⟩
theorem Ck {c:Key->Int->Key}{k:Nat}{K:List Key}{R:VV}(h:Prod c k K K.length R){r x:Int}(j:0<=r) (m:r<K.length) (n:0<=x) (t:x<k):0<=tab R r x/\tab R r x<K.length/\keyAt K (tab R r x)=c (keyAt K r) x:=by
 have q:=h.rl
 have a:R[r.toNat]? =some (R[r.toNat]'(by omega)):=ct (by omega)
 obtain⟨_,v,e,f⟩:=h.row _ _ a
 obtain⟨x,rfl⟩:=dD n
 obtain⟨y,o,p,d⟩:=f x (by omega)
 have b:=vt j m
 rw[e]at b
 have i:v=keyAt K r:=GS b
 have g:tab R r (x:Int)=y:=by
  unfold tab
  rw[bR (l:=R),a,Hc,bR,Gb,o,Hc]
 have s:=(C7.1 d).1
 rw[g]
 refine⟨p,by omega,?_⟩
 rw[← i]
 unfold keyAt
 rw[d];rfl
theorem PR.len {n:Nat}{cs:VC}{D:Det}(h:PR n cs D):D.Pairs.length=cs.length:=by
 induction h with
 |nil=>rfl
 | @snoc cs c D b R d k a=>
  show(D.Pairs.map _++[_]).length=_
  rw[C9,Gg,C9,a];rfl
theorem Stp3.q {p:Sig}{cs:VC}{d:Det}{n m k:Nat}{A:Arena}{P:VL}{g:Parity}{W:Int->Prop}{pk:VI}(S2:Stp2 p cs d A) (S:Stp3 p cs d n m k A P g W pk):Stq p cs d n m k A P g W pk:=⟨S.det,S.im,S.ok,S.cx,S2.prd⟩
theorem small {p:Sig}(hs:sigOk p=true){cs:VC}(l:∀a∈cs,Clause.bd a) (o:∀a∈cs,cK p a=true) (h2:cs.length<=2):∃d A n m k P g W pk,cU p cs=some (d,true)/\db p cs=some (d,true)/\Stp2 p cs d A/\Stp3 p cs d n m k A P g W pk/\n<=16/\d.Pairs.length<=2:=by
 have q:dI p cs=true:=by
  unfold dI
  rw[decide_eq_true (by omega),Gc.2 o];rfl
 rcases setup p l with ⟨_,_,i⟩|⟨d,A,h1,f,S2,j⟩
 .have:=i hs q
  omega
 .obtain⟨N,t,b⟩:=S2.prd
  have z:=b.size
  have x:=b.len
  have s:4 ^ cs.length<=4 ^ 2:=Nat.pow_le_pow_right (by omega) h2
  obtain⟨m,hm,u⟩:=S2.al
  have y:=iD p.In
  have w:d.Next.length * m<=16 * 4:=Nat.mul_le_mul (by omega) (by omega)
  rcases j with ⟨_,_,P,B,r,e⟩|⟨n,m,k,P,g,W,pk,S⟩
  .have:=ue (k:=d.Pairs.length) (by omega) (c:=A.Owner.length) r λv c=>⟨e v c,(e v c).a1⟩
   omega
  .refine⟨d,A,n,m,k,P,g,W,pk,h1,f,S2,S,?_,by omega⟩
   have:=S.cx.dl
   omega
theorem B8 {n:Nat}(h:n<=256):tg (n:Int)=some (firstR n):=by
 unfold tg
 obtain⟨c,d,e⟩:=cZ (f:=nv (n:Int)) (λj (s:VI×Int)=>s=(firstR j,(j:Int))/\j<=n) (λ_=>False) (λs=>s.1=firstR n) n (λj s ⟨a,hj⟩=>by
  subst a
  unfold nv
  dsimp only
  by_cases b:j<n
  .rw[decide_eq_true (show(j:Int)<(n:Int) by omega),cond_true,decide_eq_true (show(n:Int)<=256 by omega),GA,cond_true,app1 (by unfold firstR;rw[Gg,GK];omega) rfl,GA,wr' (by omega) (by omega)]
   exact⟨_,rfl,b,by unfold firstR;rw[GP,FF];rfl,by omega⟩
  .have:j=n:=by omega
   subst this
   rw[decide_eq_false (show ¬((j:Nat):Int)<(j:Int) by omega),cond_false,GA,cond_false]
   exact⟨_,rfl,rfl⟩) (2 ^ 64) 0 ([],0) (by omega) ⟨rfl,Gz _⟩ (by omega)
 match c,e with
 |.inr s,a=>rw[d,GA,bV,a]
theorem o8 {n i:Nat}(h:i<n):(firstR n)[i]? =some (i:Int):=by
 unfold firstR
 rw[FA,G8 h];rfl
theorem BO {n:Nat}(h:n<=256):qY (n:Int) (firstR n)=some (FK n true):=by
 unfold qY
 have hl:(firstR n).length=n:=by unfold firstR;rw[Gg,GK]
 rw[dq (by omega) rfl,GA,hl]
 obtain⟨s,h1,h2,e⟩:=cg (f:=mg (firstR n)) (λj (s:VB)=>s.length=n/\∀i:Nat,i<j->s[i]? =some true) n (s:=FK n false) ⟨by simp,λi a=>absurd a (Gy i)⟩ (λj s hj ⟨b,c⟩=>by
  have g:s[j]? =some (s[j]'(by omega)):=ct (by omega)
  unfold mg
  rw[bT,o8 hj,GA,bT,g,GA,qZ (by omega),GA]
  refine⟨_,rfl,by rw[List.length_set];exact b,λi a=>?_⟩
  by_cases d:i=j
  .subst d
   exact List.getElem?_set_self (by omega)
  .rw[List.getElem?_set_ne (by omega)]
   exact c i (by omega))
 rw[h1,GA,bV]
 congr 1
 apply List.ext_getElem?
 intro i
 rw[GH]
 by_cases a:i<n
 .rw[if_pos a];exact e i a
 .rw[if_neg a];exact GG (by omega)
theorem yF {g:Parity}(o:c8 g=true){W:Int->Prop}(l:jn g=some (wonL g.Prio.length W)):∃w X,qX g=some (firstR g.Prio.length)/\tj g (firstR g.Prio.length)=some (w,X)/\kJ w 0=some (!(wB W 0)):=by
 have h:=GOk.of o
 have hn:=h.n256
 obtain⟨h1,h2,d,ah,H⟩:=dZ o
 have ai:1<=g.Prio.length:=by omega
 have hl:(firstR g.Prio.length).length=g.Prio.length:=by unfold firstR;rw[Gg,GK]
 obtain⟨P,D,Y⟩:=wY h
 have M:qX g=some (firstR g.Prio.length):=by
  unfold qX
  rw[B8 hn];rfl
 -- the set of the winner
 have K:=np h (pu o)
 have Q:=zP h P
 have I:In (FK g.Prio.length true)=λv:Int=>0<=v/\v<g.Prio.length:=funext λv=>propext (yJ v)
 have C:=h.wfS Y (k:=FK g.Prio.length (-1)) (by simp)
 obtain⟨R,F,ak,_⟩:=Cb C h.pri g.Prio.length (FK g.Prio.length true) (2 ^ 64) (by simp) (by rw[I,Q];exact K) (by have:=ka (FK g.Prio.length true);simp at this;exact this) (by omega)
 have L:wonL g.Prio.length W=R.map λc=>b2i (!c):=by
  unfold jn at l
  rw[D,GA,Bb h,GA,F,GA]at l
  obtain⟨s,U,V⟩:=cg (f:=lE R) (λj s=>s=(R.take j).map λc=>b2i (!c)) R.length (s:=[]) rfl (λj s hj a=>by
   subst a
   have b:R[j]? =some R[j]:=ct hj
   generalize R[j]=c at b
   have O:gx c=some (b2i c):=by cases c <;> rfl
   unfold lE
   rw[bT,b,GA,O,GA,oW,app1 (by rw[Gg,FE];omega) rfl]
   exact⟨_,rfl,by rw[Gv,b,FF];rfl⟩)
  rw[U,V,GA,bV,Gx]at l
  exact(GS l).symm
 have y:R[0]? =some (!(wB W 0)):=by
  have a:=lF (W:=W) (n:=g.Prio.length) (v:=0) ⟨Int.le_refl _,by omega⟩
  have b:R[0]? =some (R[0]'(by omega)):=ct (by omega)
  rw[L,show(0:Int)=((0:Nat):Int) from rfl,bT,FA,b]at a
  rw[b]
  generalize R[0]'(by omega)=c at a
  have a:=GS a
  revert a
  show b2i (!c)=b2i (wB W 0)->_
  cases c <;> cases wB W 0 <;> first | (intro _;rfl) | (intro a;exact absurd a (by decide))
 have T:l9 (firstR g.Prio.length) (g.Prio.length:Int)=some true:=by
  unfold l9
  rw[d8,lz (by omega) (by omega) (by omega),fI.2 ⟨λx b=>by
   obtain⟨i,p⟩:=Gf b
   have m:=(C7.1 p).1
   rw[o8 (by omega)]at p
   cases p
   omega,by
   unfold firstR
   refine Hb.2 (List.Pairwise.imp (λ{G c} aj=>?_) List.pairwise_lt_range)
   show(G:Int)<(c:Int)
   omega⟩,decide_eq_true (show(0:Int)<=(g.Prio.length:Int) by omega),decide_eq_true (show(g.Prio.length:Int)<=256 by omega)]
  rfl
 have N:∀v:Nat,v<g.Prio.length->∃z,jA ⟨g.Arena.Owner,g.Prio,g.Arena.Next,P,FK g.Prio.length (-1)⟩ (FK g.Prio.length true) (v:Int)=some z/\(z==0)=false:=λv e=>by
  have hd:=yn C (B:=FK g.Prio.length true) (by simp) (v:=(v:Int)) (by omega) (by omega)
  refine⟨_,hd,?_⟩
  have q:g.Arena.Next[v]? =some (g.Arena.Next[v]'(by omega)):=ct (by omega)
  obtain⟨Z,_,E⟩:=H v _ q
  generalize g.Arena.Next[v]'(by omega)=row at q Z E
  have S:rowS (⟨g.Arena.Owner,g.Prio,g.Arena.Next,P,FK g.Prio.length (-1)⟩:l7Game) (v:Int)=row.filter (okE (-1)):=tf (by rw[bT];exact q) (by rw[bT,GH,if_pos e])
  rw[beq_eq_false_iff_ne]
  intro a
  have u:lf (rowS (⟨g.Arena.Owner,g.Prio,g.Arena.Next,P,FK g.Prio.length (-1)⟩:l7Game) (v:Int)) (In (FK g.Prio.length true)) (λ_=>False)=0:=by omega
  rw[ww,S]at u
  have b:row[0]? =some (row[0]'(by omega)):=ct (by omega)
  have hm:=FI b
  obtain⟨aa,al⟩:=(fI.1 E).1 _ hm
  exact u _ (Gj.2 ⟨hm,rfl⟩) ((yJ _).2 ⟨aa,by omega⟩)
 obtain⟨s,ab,am,an,ac⟩:=cg (f:=nG (firstR g.Prio.length) R) (λj (s:VI×VI)=>s.1.length<=j/\s.2.length<=j/\∀z,z∈s.1↔∃i:Nat,i<j/\z=(i:Int)/\R[i]? =some true) g.Prio.length (s:=([],[])) ⟨by simp,by simp,λz=>by simp⟩ (λj s hj ⟨af,ag,t⟩=>by
  have b:R[j]? =some (R[j]'(by omega)):=ct (by omega)
  generalize R[j]'(by omega)=c at b
  unfold nG
  rw[bT,o8 hj,GA,bT,b,GA]
  cases c with
  |true=>
   rw[cond_true,GA,app1 (by omega) rfl]
   refine⟨_,rfl,by dsimp only;rw[C9];simp;omega,by dsimp only;omega,λz=>?_⟩
   dsimp only
   rw[E4,E7,t]
   constructor
   .rintro(⟨i,h1,h2⟩|a)
    .exact⟨i,by omega,h2⟩
    .exact⟨j,by omega,a,b⟩
   .rintro⟨i,h1,h2,d⟩
    by_cases a:i=j
    .subst a;exact .inr h2
    .exact .inl ⟨i,by omega,h2,d⟩
  |false=>
   rw[cond_false,GA,app1 (by omega) rfl]
   refine⟨_,rfl,by dsimp only;omega,by dsimp only;rw[C9];simp;omega,λz=>?_⟩
   dsimp only
   rw[t]
   constructor
   .rintro⟨i,h1,h2⟩
    exact⟨i,by omega,h2⟩
   .rintro⟨i,h1,h2,d⟩
    by_cases a:i=j
    .subst a;rw[b]at d;cases d
    .exact⟨i,by omega,h2,d⟩)
 refine⟨s.1,s.2,M,?_,?_⟩
 .unfold tj
  rw[mw,o,GA,F7,cond_false,T,GA,GA,F7,cond_false,D,GA,BO hn,GA]
  rw[d9 (f:=nF (firstR g.Prio.length) ⟨g.Arena.Owner,g.Prio,g.Arena.Next,P,FK g.Prio.length (-1)⟩ (FK g.Prio.length true)) (r:=([],[])) (λ_=>true) (xs:=firstR g.Prio.length) rfl (λi v e=>by
   have m:=(C7.1 e).1
   rw[hl]at m
   have A:=e
   rw[o8 m]at A
   cases A
   obtain⟨z,ad,ae⟩:=N i m
   unfold nF
   rw[bT,e,GA,ad,GA,ae];rfl)]
  rw[show((firstR g.Prio.length).all λ_=>true)=true from by simp,if_pos rfl,GA,bV,F,GA,hl,ab,GA,bV]
 .rw[ut]
  congr 1
  rw[Bool.eq_iff_iff,decide_eq_true_eq,ac]
  constructor
  .rintro⟨i,h1,h2,d⟩
   have:i=0:=by omega
   subst this
   rw[y]at d
   exact GS d
  .intro a
   exact⟨0,by omega,rfl,by rw[y,a]⟩
section
variable {p:Sig}{cs:VC}{d:Det}{A:Arena}(h1:cU p cs=some (d,true)) (h2:db p cs=some (d,true)) (S2:Stp2 p cs d A)
include h1 S2
omit h2
theorem EL:d7 p cs=FR (oK p d 0) λx=>some (x==0):=by
 unfold d7 ny
 rw[h1,GA,cond_true,lW S2.sig S2.pb,S2.det,GA,F7,cond_false]
 cases oK p d 0 <;> rfl
omit h1
include h2
theorem D7:hU p cs=FR (ed A d.Pairs 0) λa=>bif (!a.2.2) then some false else FR (eK a.1) λc=>FR (idx c 0) λe=>some (e==0):=by
 have b:lM A 0=some true:=by
  unfold lM oy
  have:=S2.a1
  rw[decide_eq_true (Int.le_refl 0),cond_true,GA,decide_eq_true (by omega)];rfl
 unfold hU mX ml oy
 rw[h2,GA,cond_true,jv,S2.sig,GA,F7,cond_false,sg S2.sig S2.pb,S2.det,S2.iC]
 simp only[qp,S2.aok,GA,F7,cond_false,oh S2.pb,S2.pok,b]
 cases ed A d.Pairs 0 with
 |none=>rfl
 |some x=>
  simp only[GA]
  cases !x.2.2 with
  |true=>rfl
  |false=>
   simp only[cond_false]
   cases eK x.1 with
   |none=>rfl
   |some y=>
    simp only[GA]
    cases idx y 0 <;> rfl
end
section
variable {p:Sig}{cs:VC}{d:Det}{n m k:Nat}{A:Arena}{P:VL}{g:Parity}{W:Int->Prop}{pk:VI}(S2:Stp2 p cs d A) (S:Stp3 p cs d n m k A P g W pk)
include S2 S
theorem zz (h1:cU p cs=some (d,true)):d7 p cs=some (!(wB W 0)):=by
 obtain⟨e,f,a,b,c⟩:=yF S.cx.ok S.sW
 rw[EL h1 S2]
 unfold oK
 rw[S2.sC,GA,S.sR,GA]
 simp only[GA,F7,cond_false,a,b,c]
 cases wB W 0 <;> rfl
theorem yZ (h2:db p cs=some (d,true)):hU p cs=some (!(wB W 0)):=by
 rw[D7 h2 S2,S.iR,GA]
 simp only[F7,cond_false,S.iW,S.won,GA]
 cases wB W 0 <;> rfl
end
def mrun (c:Clause) (L:Nat->Int):Nat->Int
 |0=>0
 |t+1=>mst c (mrun c L t) (L t)
def Well (A G:VI) (s:Nat->Int):Prop:=(Hd λt=>s t∈A)->Hd λt=>s t∈G
theorem qE {S T:Nat->Prop}(h:∀t,S t↔T t):Hd S↔Hd T:=by
 rw[show S=T from funext λt=>propext (h t)]
def rowOk (p:Sig) (m:Machine) (i:Nat) (row:VI):Bool:=
 match m.Out[i]? with
 |some a=>((row.length:Int)==pw p.In)&&((a.length:Int)==(row.length:Int))&&row.all (inR (m.Next.length:Int))&&a.all (inR (pw p.Out))
 |none=>false
def machOk (p:Sig) (m:Machine):Bool:=decide (1<=(m.Next.length:Int))&&decide ((m.Next.length:Int)<=48)&&((m.Out.length:Int)==(m.Next.length:Int))&&m.Next.zipIdx.all (λx=>rowOk p m x.2 x.1)
theorem kW {p:Sig}(hs:sigOk p=true) (m:Machine):iA p m=some (machOk p m):=by
 unfold iA machOk
 obtain⟨j,c⟩:=eQ hs
 simp only[orE,GA,rj,bne]
 rw[← Bool.not_and,← Bool.not_and]
 cases h1:(decide (1<=(m.Next.length:Int))&&decide ((m.Next.length:Int)<=48)&&((m.Out.length:Int)==(m.Next.length:Int))) with
 |false=>rfl
 |true=>
  simp only[ra,decide_eq_true_eq,beq_iff_eq]at h1
  simp only[F7,cond_false,GA,Bool.true_and]
  rw[mD (f:=iQ p m) (r:=false) (rowOk p m) (xs:=m.Next) rfl (λi a e=>by
   have k:=(C7.1 e).1
   obtain⟨b,d⟩:∃b,m.Out[i]? =some b:=⟨_,ct (by omega)⟩
   have g:rowOk p m i a=(((a.length:Int)==pw p.In)&&((b.length:Int)==(a.length:Int))&&a.all (inR (m.Next.length:Int))&&b.all (inR (pw p.Out))):=by unfold rowOk;rw[d]
   rw[g]
   unfold iQ
   rw[bT,bT,e,d]
   simp only[GA,dX hs,(nf c).1,(nf c).2,nX,bne]
   generalize((a.length:Int)==pw p.In)=b1
   generalize((b.length:Int)==(a.length:Int))=b2
   generalize a.all (inR (m.Next.length:Int))=b3
   generalize b.all (inR (pw p.Out))=b4
   cases b1 <;> cases b2 <;> cases b3 <;> cases b4 <;> rfl)]
  cases List.all m.Next.zipIdx (λx=>rowOk p m x.2 x.1) <;> rfl
theorem gi {p:Sig}{m:Machine}(h:machOk p m=true):1<=m.Next.length/\m.Next.length<=48/\m.Out.length=m.Next.length /\
 (∀a∈m.Next,RowIn m.Next.length (pw p.In) a)/\(∀a∈m.Out,RowIn (pw p.Out) (pw p.In) a):=by
 simp only[machOk,ra,decide_eq_true_eq,beq_iff_eq]at h
 obtain⟨⟨⟨h1,h2⟩,q⟩,f⟩:=h
 rw[Gc]at f
 have j:∀(i:Nat) a,m.Next[i]? =some a->∃b,m.Out[i]? =some b/\RowIn m.Next.length (pw p.In) a/\RowIn (pw p.Out) (pw p.In) b:=λi a e=>by
  have:=f (a,i) (Gl.2 e)
  unfold rowOk at this
  cases d:m.Out[i]? with
  |none=>simp[d]at this
  |some b=>
   simp only[d,ra,beq_iff_eq,Gc,gQ]at this
   obtain⟨⟨⟨l,s⟩,n⟩,o⟩:=this
   exact⟨b,rfl,⟨l,n⟩,⟨by omega,o⟩⟩
 refine⟨by omega,by omega,by omega,λa e=>?_,λb d=>?_⟩
 .obtain⟨i,c⟩:=List.mem_iff_getElem?.1 e
  exact(j i a c).choose_spec.2.1
 .obtain⟨i,c⟩:=List.mem_iff_getElem?.1 d
  have r:=(C7.1 c).1
  obtain⟨t,g,_,k⟩:=j i _ (ct (by omega))
  rw[c]at g
  cases g
  exact k
theorem qI (f:Int->Bool) (xs:VI) (p:Nat):∀n:Nat,di f xs n<(p:Int)↔∀(j:Nat) x,p<=j->j<n->xs[j]? =some x->f x=false
 |0=>⟨λ_ j x _ h=>absurd h (Gy j),λ_=>by unfold di;omega⟩
 |n+1=>by
  have e:=qI f xs p n
  have sp:∀j,j<n+1->j<n\/j=n:=λj hj=>by omega
  unfold di
  cases d:xs[n]? with
  |none=>
   dsimp only
   rw[cond_false,e]
   exact⟨λh j x h1 h2 a=>(sp j h2).elim (λh2=>h j x h1 h2 a) λb=>by(subst b;rw[d]at a;cases a),λh j x h1 h2=>h j x h1 (by omega)⟩
  |some y=>
   dsimp only
   cases c:f y with
   |true=>
    rw[cond_true]
    refine⟨λh j x h1 h2=>by omega,λh=>F9 λhn=>?_⟩
    rw[h n y (by omega) (by omega) d]at c
    cases c
   |false=>
    rw[cond_false,e]
    exact⟨λh j x h1 h2 a=>(sp j h2).elim (λh2=>h j x h1 h2 a) λb=>by(subst b;rw[d]at a;cases a;exact c),λh j x h1 h2=>h j x h1 (by omega)⟩
theorem tU {f:Int->Bool}{xs:VI}{j:Nat}:∀{n:Nat},di f xs n=(j:Int)->∃x,xs[j]? =some x/\f x=true
 |0,h=>by unfold di at h;omega
 |n+1,h=>by
  unfold di at h
  cases b:xs[n]? with
  |none=>
   rw[b]at h
   dsimp only at h
   rw[cond_false]at h
   exact tU h
  |some y=>
   rw[b]at h
   dsimp only at h
   cases a:f y with
   |true=>
    rw[a,cond_true]at h
    have:n=j:=by omega
    subst this
    exact⟨y,b,a⟩
   |false=>
    rw[a,cond_false]at h
    exact tU h
theorem oC (ps:VP) (rc:VI) (v:Int):(lh ps rc v=0/\di (askI ps v) rc rc.length<0/\di (dc ps v) rc rc.length<0) \/
 (di (dc ps v) rc rc.length<di (askI ps v) rc rc.length/\lh ps rc v=2 * di (askI ps v) rc rc.length+1)\/(di (askI ps v) rc rc.length<=di (dc ps v) rc rc.length/\0<=di (dc ps v) rc rc.length/\lh ps rc v=2 * di (dc ps v) rc rc.length+2):=by
 have b:=jc (askI ps v) rc rc.length
 have g:=jc (dc ps v) rc rc.length
 unfold lh
 generalize di (askI ps v) rc rc.length=x at *
 generalize di (dc ps v) rc rc.length=y at *
 by_cases h1:x<0 <;> by_cases h2:y<0 <;> by_cases a:y<x <;> simp[h1,h2,a] <;> omega
theorem frozen {G:Int->Bool}{xs:VI}{p:Nat}(h:∀(j:Nat) x,p<=j->xs[j]? =some x->G x=false){j:Nat}(hj:p<=j):(xs.filter G++xs.filter λx=> !G x)[j]? =xs[j]?:=by
 have hd:∀x∈xs.drop p,G x=false:=λx a=>by
  obtain⟨i,b⟩:=Gf a
  rw[List.getElem?_drop]at b
  exact h _ x (by omega) b
 have h1:(xs.drop p).filter G=[]:=List.filter_eq_nil_iff.2 λx a=>by rw[hd x a];simp
 have h2:((xs.drop p).filter λx=> !G x)=xs.drop p:=List.filter_eq_self.2 λx a=>by rw[hd x a];rfl
 have c:=List.take_append_drop p xs
 have d:=mV G (xs.take p)
 have e:(xs.take p).length<=p:=by rw[FE];omega
 conv=>rw[← c]
 rw[GF,GF,h1,h2,G7,← Fo,Fx (by rw[C9];omega),Fx (by omega),C9,d]
theorem moved {G:Int->Bool}{xs:VI}{p:Nat}{i:Int}(e:xs[p]? =some i) (hi:G i=false):∃b,p<=b/\(xs.filter G++xs.filter λx=> !G x)[b]? =some i/\(b=p->∀(j:Nat) x,p<=j->xs[j]? =some x->G x=false):=by
 obtain⟨A,B,c,k⟩:∃A B,xs=A++i::B/\A.length=p:=by
  obtain⟨hl,f⟩:=C7.1 e
  refine⟨xs.take p,xs.drop (p+1),?_,by rw[FE];omega⟩
  have:=List.drop_eq_getElem_cons hl
  rw[f]at this
  rw[← this,List.take_append_drop]
 subst c
 have g:=mV G A
 refine⟨p+(B.filter G).length,by omega,?_,λc j x hj a=>?_⟩
 .rw[GF,GF,List.filter_cons_of_neg (by rw[hi];simp),List.filter_cons_of_pos (by rw[hi];rfl),Fx (by rw[C9];omega),Fx (by rw[C9];omega),C9]
  rw[show p+(B.filter G).length-((A.filter G).length+(B.filter G).length)-(A.filter λx=> !G x).length=0 by omega];rfl
 .have d:B.filter G=[]:=List.length_eq_zero_iff.1 (by omega)
  rw[Fx (by omega)]at a
  match hq:j-A.length,a with
  |0,a=>cases a;exact hi
  |q+1,a=>
   have:=List.filter_eq_nil_iff.1 d x (FI a)
   simpa using this
theorem Bm {Q:Nat->Prop}:∀{b:Nat},(∃n,Q n)->(∀n,Q n->n<b)->∃n,Q n/\∀m,Q m->m<=n
 |0,⟨n,hn⟩,hb=>absurd (hb n hn) (Gy n)
 |b+1,h,hb=>by
  by_cases a:Q b
  .exact⟨b,a,λm hm=>by have:=hb m hm;omega⟩
  .exact Bm (b:=b) h λn hn=>by
    have:=hb n hn
    have:n≠b:=λc=>a (c ▸ hn)
    omega
section
variable {ps:VP}{k:Nat}{v:Nat->Int}{rc:Nat->VI}(hk:∀t,(rc t).length=k) (hn:∀t,rc (t+1)=fN ps (rc t) (v t)){d:Int}(hio:Hd λt=>lh ps (rc t) (v t)=d){N:Nat}(hle:∀t,N<=t->lh ps (rc t) (v t)<=d)
include hk hn hio hle
omit hk in
theorem C1 (hd:d % 2=1):∃i,i∈rc 0/\(Hd λt=>askI ps (v t) i=true)/\¬Hd λt=>dc ps (v t) i=true:=by
 obtain⟨a,ha⟩:∃a:Nat,d=2 * (a:Int)+1:=by
  obtain⟨t,_,k⟩:=hio 0
  have:=jc (askI ps (v t)) (rc t) (rc t).length
  have:=jc (dc ps (v t)) (rc t) (rc t).length
  rcases oC ps (rc t) (v t) with h|h|h
  .omega
  .exact⟨(di (askI ps (v t)) (rc t) (rc t).length).toNat,by omega⟩
  .omega
 have r:∀t,N<=t->∀(j:Nat) x,a<=j->(rc t)[j]? =some x->dc ps (v t) x=false:=λt k j x hj b=>by
  refine(qI (dc ps (v t)) (rc t) a (rc t).length).1 ?_ j x hj (C7.1 b).1 b
  have:=hle t k
  rcases oC ps (rc t) (v t) with h|h|h <;> omega
 have q:∀m,(rc (N+m))[a]? =(rc N)[a]?:=λm=>by
  induction m with
  |zero=>rfl
  |succ m l=>
   rw[← l,show N+(m+1)=N+m+1 from rfl,hn]
   exact frozen (r _ (by omega)) (Fg a)
 have p:∀t,N<=t->lh ps (rc t) (v t)=d->∃x,(rc N)[a]? =some x/\askI ps (v t) x=true:=λt k z=>by
  obtain⟨x,e,o⟩:=tU (f:=askI ps (v t)) (xs:=rc t) (j:=a) (n:=(rc t).length) (by rcases oC ps (rc t) (v t) with h|h|h <;> omega)
  refine⟨x,?_,o⟩
  rw[← e,← q (t-N),show N+(t-N)=t by omega]
 obtain⟨y,h0,u⟩:=hio N
 obtain⟨i,g,_⟩:=p y h0 u
 have w:∀t x,x∈rc t->x∈rc 0:=λt=>by
  induction t with
  |zero=>exact λx h=>h
  |succ t l=>
   intro x b
   rw[hn]at b
   unfold fN at b
   rcases E4.1 b with h|h <;> exact l x (Gj.1 h).1
 refine⟨i,w N i (FI g),λM=>?_,λh=>?_⟩
 .obtain⟨t,s,c⟩:=hio (max M N)
  obtain⟨x,e,o⟩:=p t (by omega) c
  rw[g]at e
  cases e
  exact⟨t,by omega,o⟩
 .obtain⟨t,s,c⟩:=h N
  have:=r t s a i (Fg a) (by rw[← g,← q (t-N),show N+(t-N)=t by omega])
  rw[this]at c
  cases c
theorem AA (hd:d % 2=0){i:Int}(hi:i∈rc 0) (ha:Hd λt=>askI ps (v t) i=true):Hd λt=>dc ps (v t) i=true:=by
 intro M
 apply F9
 intro B
 have s:∀t,M<=t->dc ps (v t) i=false:=λt z=>Bool.eq_false_iff.2 λh=>B ⟨t,z,h⟩
 have A:∀t,i∈rc t:=λt=>by
  induction t with
  |zero=>exact hi
  |succ t n=>
   rw[hn]
   unfold fN
   rw[E4,Gj,Gj]
   cases dc ps (v t) i <;> simp[n]
 obtain⟨p,⟨a,h0,e⟩,w⟩:=Bm (Q:=λp=>∃t,M<=t/\(rc t)[p]? =some i) (b:=k) (by
  obtain⟨p,e⟩:=Gf (A M)
  exact⟨p,M,Fg M,e⟩) (λp ⟨t,_,e⟩=>by
  have:=(C7.1 e).1
  rwa [hk]at this)
 have y:∀m,(rc (a+m))[p]? =some i:=λm=>by
  induction m with
  |zero=>exact e
  |succ m n=>
   obtain⟨f,D,g,_⟩:=moved n (s (a+m) (by omega))
   have:(rc (a+m+1))[f]? =some i:=by rw[hn];exact g
   have:=w f ⟨_,by omega,this⟩
   have l:f=p:=by omega
   subst l
   rw[show a+(m+1)=a+m+1 from rfl,hn]
   exact g
 have u:∀t,a<=t->di (dc ps (v t)) (rc t) (rc t).length<(p:Int):=λt z=>by
  have l:a+(t-a)=t:=by omega
  have h1:=y (t-a)
  rw[l]at h1
  obtain⟨f,D,g,E⟩:=moved h1 (s t (by omega))
  have:=w f ⟨t+1,by omega,by rw[hn];exact g⟩
  exact(qI _ _ p _).2 λj x hj _ C=>E (by omega) j x hj C
 obtain⟨c,h1,q⟩:=ha (max a N)
 have F:=hle c (by omega)
 have G:=u c (by omega)
 have H:¬di (askI ps (v c)) (rc c) (rc c).length<(p:Int):=λh=>by
  have h2:=y (c-a)
  rw[show a+(c-a)=c by omega]at h2
  have:=(qI _ _ p _).1 h p i (Fg p) (C7.1 h2).1 h2
  rw[this]at q
  cases q
 obtain⟨o,h2,K⟩:=hio a
 have I:=u o h2
 rcases oC ps (rc c) (v c) with h|h|h <;> rcases oC ps (rc o) (v o) with r|r|r <;> omega
end
def recP (P:VL) (y:Int):VI:=match idx P y with | some v=>v.Record | none=>[]
theorem xp {ps:VP}{i:Nat}{a:Pair}(h:ps[i]? =some a) (v:Int):askI ps v (i:Int)=true↔v∈a.Ask:=by
 unfold askI
 rw[bT,h]
 simp
theorem vq {ps:VP}{i:Nat}{a:Pair}(h:ps[i]? =some a) (v:Int):dc ps v (i:Int)=true↔v∈a.Give:=by
 unfold dc
 rw[bT,h]
 simp
section
variable {d:Det}{n m k:Nat}{A:Arena}{P:VL}{g:Parity}{W:Int->Prop}{pk:VI}(h:Cx d n m k A P g W pk){q:Bool}{π:Nat->Int}(hπ:Par.Play (gI g) q (Par.Rg (Xn P.length) (wB W) q) (pkL pk) π) (h0:π 0=0)
include h hπ
theorem Cx.recs (t:Nat):(recP P (π t)).length=d.Pairs.length/\recP P (π (t+1))=fN d.Pairs (recP P (π t)) (atP P (π t))/\(gI g).pri (π t)=lh d.Pairs (recP P (π t)) (atP P (π t)):=by
 obtain⟨⟨a,_⟩,k,_⟩:=hπ t
 obtain⟨v,b,_,_⟩:=h.place a
 have hj:P[(π t).toNat]? =some v:=by rw[← cN a.1];exact b
 have l:=h.rg.game.inn v (FI hj)
 obtain⟨_,c,o,n,e,_,f⟩:=h.rg.game.row _ v (C7.1 hj).1 hj
 have j:recP P (π t)=v.Record:=by unfold recP;rw[b]
 rw[j,dR b]
 refine⟨l.rl,?_,?_⟩
 .obtain⟨m,p,_,i⟩:=f.to _ ((mU (by rw[cN a.1];exact e)).1 k)
  unfold recP
  rw[cN m,i]
 .show priL g.Prio (π t)=_
  unfold priL
  rw[cN a.1,c];rfl
theorem Cx.wins:Par.Wins (gI g) q π:=by
 have d:=h.len.1
 have ha:=h.sol.ans
 rw[d]at ha
 refine ha.wins (n:=P.length) (b:=41) (λv a=>a) (λv a=>?_) hπ
 obtain⟨x,c⟩:=cI (xs:=g.Prio) a.1 (by rw[d];exact a.2)
 have:=(GOk.of h.ok).pri v x c
 show 0<=priL g.Prio v/\priL g.Prio v<41
 unfold priL
 rw[c,Hc]
 omega
include h0
omit hπ in
theorem Cx.rec0:recP P (π 0)=firstR d.Pairs.length:=by
 rw[h0]
 unfold recP
 rw[show(0:Int)=((0:Nat):Int) from rfl,bT,h.rg.game.zero]
theorem Cx.even (j:q=false){i:Nat}{c:Pair}(b:d.Pairs[i]? =some c):Well c.Ask c.Give λt=>atP P (π t):=by
 obtain⟨D,e,f,N,g⟩:=h.wins hπ
 have a:=h.recs hπ
 intro ha
 refine(qE λt=>vq b _).1 (AA (rc:=λt=>recP P (π t)) (v:=λt=>atP P (π t)) (λt=>(a t).1) (λt=>(a t).2.1) (d:=D) (λN=>?_) (N:=N) (λt k=>?_) ?_ ?_ ((qE λt=>xp b _).2 ha))
 .obtain⟨t,l,m⟩:=f N
  exact⟨t,l,(a t).2.2.symm.trans m⟩
 .rw[← (a t).2.2];exact g t k
 .subst j
  unfold Par.oddP at e
  have:=of_decide_eq_false e
  omega
 .show(i:Int)∈recP P (π 0)
  rw[h.rec0 h0]
  exact FH.2 ⟨i,GM.2 (C7.1 b).1,rfl⟩
theorem Cx.odd (m:q=true):∃(i:Nat) (f:Pair),d.Pairs[i]? =some f/\¬Well f.Ask f.Give λt=>atP P (π t):=by
 obtain⟨D,g,k,N,l⟩:=h.wins hπ
 have e:=h.recs hπ
 obtain⟨i,a,p,r⟩:=C1 (rc:=λt=>recP P (π t)) (v:=λt=>atP P (π t)) (λt=>(e t).2.1) (d:=D) (λN=>by
  obtain⟨t,s,u⟩:=k N
  exact⟨t,s,(e t).2.2.symm.trans u⟩) (N:=N) (λt n=>by rw[← (e t).2.2];exact l t n) (by
  subst m
  exact of_decide_eq_true g)
 have a:i∈recP P (π 0):=a
 rw[h.rec0 h0]at a
 obtain⟨j,hj,b⟩:=FH.1 a
 have b:(j:Int)=i:=b
 subst b
 have c:d.Pairs[j]? =some (d.Pairs[j]'(GM.1 hj)):=ct _
 exact⟨j,_,c,λo=>r ((qE λt=>vq c _).2 (o ((qE λt=>xp c _).1 p)))⟩
end
def alt (x y:Nat->Int) (t:Nat):Int:=if t % 2=0 then x (t / 2) else y (t / 2)
theorem ob (x y:Nat->Int) (t:Nat):alt x y (2 * t)=x t:=by
 unfold alt
 rw[if_pos (by omega),show 2 * t / 2=t by omega]
theorem vO (x y:Nat->Int) (t:Nat):alt x y (2 * t+1)=y t:=by
 unfold alt
 rw[if_neg (by omega),show(2 * t+1) / 2=t by omega]
theorem vh (t:Nat):(∃s,t=2 * s)\/∃s,t=2 * s+1:=by
 by_cases h:t % 2=0
 .exact .inl ⟨t / 2,by omega⟩
 .exact .inr ⟨t / 2,by omega⟩
theorem Bu {x y:Nat->Int}{S:Int->Prop}(b:∀t,¬S (y t)):(Hd λt=>S (alt x y t))↔Hd λt=>S (x t):=⟨λh N=>by
 obtain⟨t,c,a⟩:=h (2 * N)
 rcases vh t with ⟨s,rfl⟩|⟨s,rfl⟩
 .rw[ob]at a
  exact⟨s,by omega,a⟩
 .rw[vO]at a
  exact absurd a (b s),λh N=>by
 obtain⟨t,c,a⟩:=h N
 exact⟨2 * t,by omega,by show S (alt x y (2 * t));rw[ob];exact a⟩⟩
theorem Cp {x y:Nat->Int}{A G:VI}{P:VL}(a:∀t,atP P (y t)∉A) (b:∀t,atP P (y t)∉G):(Well A G λt=>atP P (alt x y t))↔Well A G λt=>atP P (x t):=by
 unfold Well
 rw[Bu (S:=λz=>atP P z∈A) a,Bu (S:=λz=>atP P z∈G) b]
def ixW (s l t:Nat):Nat:=if t<s then t else s+(t-s) % l
def ltW (w:Word) (t:Nat):Int:=(w.Stem++w.Loop).getD (ixW w.Stem.length w.Loop.length t) 0
section
variable {w:Word}(hl:0<w.Loop.length)
include hl
theorem D9 (t:Nat):ixW w.Stem.length w.Loop.length t<(w.Stem++w.Loop).length:=by
 have:=Nat.mod_lt (t-w.Stem.length) hl
 unfold ixW
 rw[C9]
 split <;> omega
theorem wA (t:Nat):(w.Stem++w.Loop)[ixW w.Stem.length w.Loop.length t]? =some (ltW w t):=by
 unfold ltW
 rw[bR,ct (D9 hl t)];rfl
omit hl in
theorem Bz {i:Nat}(hi:i<(w.Stem++w.Loop).length):ixW w.Stem.length w.Loop.length i=i:=by
 rw[C9]at hi
 unfold ixW
 split
 .rfl
 .rw[Nat.mod_eq_of_lt (by omega)];omega
theorem Eb {i:Nat}{x:Int}(h:(w.Stem++w.Loop)[i]? =some x):ltW w i=x:=by
 have:=wA hl i
 rw[Bz (C7.1 h).1,h]at this
 exact(GS this).symm
theorem CX (t:Nat):ltW w t∈w.Stem++w.Loop:=FI (wA hl t)
end
def seg (X:Nat->Int):Nat->Nat->VI
 |_,0=>[]
 |t,n+1=>X t::seg X (t+1) n
theorem Aq (X:Nat->Int):∀n t,(seg X t n).length=n
 |0,_=>rfl
 |n+1,t=>congrArg (· + 1) (Aq X n (t+1))
theorem Ap (X:Nat->Int):∀n t i,i<n->(seg X t n)[i]? =some (X (t+i))
 |n+1,t,0,_=>rfl
 |n+1,t,i+1,h=>by
  show(seg X (t+1) n)[i]? =_
  rw[Ap X n (t+1) i (by omega),show t+1+i=t+(i+1) by omega]
theorem Ao {X:Nat->Int}{xs:VI}{t:Nat}(h:∀i x,xs[i]? =some x->X (t+i)=x):xs=seg X t xs.length:=List.ext_getElem? λi=>by
 by_cases a:i<xs.length
 .rw[Ap X _ t i a,ct a,h i _ (ct a)]
 .rw[GG (by omega),GG (by rw[Aq];omega)]
theorem BG {w:Word}(c:0<w.Loop.length) (j:Nat):w.Loop=seg (ltW w) (w.Stem.length+j * w.Loop.length) w.Loop.length:=Ao λi x a=>by
 have b:=(C7.1 a).1
 have:=wA c (w.Stem.length+j * w.Loop.length+i)
 unfold ixW at this
 rw[if_neg (by omega),show w.Stem.length+j * w.Loop.length+i-w.Stem.length=i+w.Loop.length * j by rw[Nat.mul_comm];omega,Nat.add_mul_mod_self_left,Nat.mod_eq_of_lt b,Fx (by omega),show w.Stem.length+i-w.Stem.length=i by omega,a]at this
 exact(GS this).symm
theorem AP {p:Sig}{m:Machine}(h1:1<=m.Next.length) (h2:m.Next.length<=48) (f:m.Out.length=m.Next.length) (g:∀a∈m.Next,RowIn m.Next.length (pw p.In) a) (j:∀a∈m.Out,RowIn (pw p.Out) (pw p.In) a):machOk p m=true:=by
 unfold machOk
 rw[f]
 simp only[ra,decide_eq_true_eq,beq_self_eq_true,and_true,Gc]
 refine⟨by omega,λx b=>?_⟩
 obtain⟨a,i⟩:=x
 rw[Gl]at b
 have b:m.Next[i]? =some a:=b
 have l:=(C7.1 b).1
 have k:m.Out[i]? =some (m.Out[i]'(by omega)):=ct (by omega)
 have d:=j _ (List.getElem_mem (by omega:i<m.Out.length))
 obtain⟨c,e⟩:=g a (FI b)
 unfold rowOk
 rw[k]
 simp only[ra,beq_iff_eq,Gc,gQ]
 exact⟨⟨⟨c,by rw[c];exact d.1⟩,e⟩,d.2⟩
def runM (m:Machine) (I:Nat->Int):Nat->Int
 |0=>0
 |t+1=>tab m.Next (runM m I t) (I t)
def letM (p:Sig) (m:Machine) (I:Nat->Int) (t:Nat):Int:=tab m.Out (runM m I t) (I t) * pw p.In+I t
theorem yb {d:Det}{m k q i:Nat}{z o:Int}(h:idx (outsL d m k q i z) 0=some o):0<=o/\tab d.Next q (o * m+i)=z:=by
 obtain⟨j,hj,a⟩:=FH.1 (FI ((bT (outsL d m k q i z) 0).symm.trans h))
 have h1:=(Gj.1 hj).2
 have a:(j:Int)=o:=a
 subst a
 have h1:=beq_iff_eq.1 h1
 refine⟨by omega,?_⟩
 rw[← h1]
 simp
section
variable {p:Sig}{d:Det}{n m k:Nat}{A:Arena}{P:VL}{g:Parity}{W:Int->Prop}{pk:VI}
theorem wl:∀j:Nat,(∀i,i<j->i<(itM d n m k P g pk i).1.length)->(itM d n m k P g pk j).2.1.length=j/\(itM d n m k P g pk j).2.2.length=j/\∀z,z<j->∃x e c,(itM d n m k P g pk j).1[z]? =some x/\(itM d n m k P g pk j).2.1[z]? =some e/\(itM d n m k P g pk j).2.2[z]? =some c /\
 ∀i,i<m->(∃b:Int,e[i]? =some b/\0<=b/\(itM d n m k P g pk j).1[b.toNat]? =some (fM pk P (cX g.Arena x) n m (atP P x).toNat i))/\c[i]? =some (oM d pk P (cX g.Arena x) n m k (atP P x).toNat i)
 |0,_=>⟨rfl,rfl,λz p=>absurd p (Gy z)⟩
 |j+1,hj=>by
  obtain⟨h1,h2,l⟩:=wl j λi a=>hj i (by omega)
  have o:=hj j (by omega)
  unfold itM
  generalize itM d n m k P g pk j=s at *
  obtain⟨F,Nx,Ou⟩:=s
  dsimp only at h1 h2 l o ⊢
  have f:F[j]? =some F[j]:=ct o
  have w:F.getD j 0=F[j]:=by rw[bR,f];rfl
  rw[w]
  generalize F[j]=x at f
  refine⟨by rw[C9,h1];rfl,by rw[C9,h2];rfl,λz p=>?_⟩
  by_cases v:z=j
  .subst v
   refine⟨x,_,_,mM _ _ f m,by rw[Fx (by omega),h1,Nat.sub_self];rfl,by rw[Fx (by omega),h2,Nat.sub_self];rfl,λi a=>⟨xZ _ _ a,?_⟩⟩
   rw[FA,G8 a];rfl
  .obtain⟨y,e,c,q,r,t,u⟩:=l z (by omega)
   refine⟨y,e,c,mM _ _ q m,by rw[Fw (by omega)];exact r,by rw[Fw (by omega)];exact t,λi a=>?_⟩
   obtain⟨⟨b,A,B,C⟩,D⟩:=u i a
   exact⟨⟨b,A,B,mM _ _ C m⟩,D⟩
def xsM (n m:Nat) (P:VL) (g:Parity) (pk:VI) (I:Nat->Nat):Nat->Int
 |0=>0
 |t+1=>fM pk P (cX g.Arena (xsM n m P g pk I t)) n m (atP P (xsM n m P g pk I t)).toNat (I t)
variable (h:Cx d n m k A P g W pk) (h0:wB W 0=false){I:Nat->Nat}(hI:∀t,I t<m)
include h h0 hI
theorem zI:∀t,∃v,idx P (xsM n m P g pk I t)=some v/\v.At<(n:Int)/\wB W (xsM n m P g pk I t)=false
 |0=>by
  refine⟨⟨0,firstR d.Pairs.length⟩,?_,?_,h0⟩
  .show idx P ((0:Nat):Int)=_
   rw[bT];exact h.rg.game.zero
  .have:=h.n1
   show(0:Int)<_
   omega
 |t+1=>by
  obtain⟨v,b,l,o⟩:=zI t
  obtain⟨q,p,c,_,e,_,_,f⟩:=vo h b l o
  obtain⟨_,_,k,_,_,_,_,_,i,j,a,_⟩:=f (I t) (hI t)
  show ∃v,idx P (fM pk P (cX g.Arena _) n m (atP P _).toNat (I t))=some v/\_/\wB W (fM pk P (cX g.Arena _) n m (atP P _).toNat (I t))=false
  rw[dV e,dR b,c,Gb]
  exact⟨k,i,by rw[j];exact a.2.2.2,a.2.2.1⟩
theorem Cs (t:Nat):atP P (xsM n m P g pk I (t+1))=tab d.Next (atP P (xsM n m P g pk I t)) (oM d pk P (cX g.Arena (xsM n m P g pk I t)) n m k (atP P (xsM n m P g pk I t)).toNat (I t) * m+I t)/\0<=atP P (xsM n m P g pk I t)/\atP P (xsM n m P g pk I t)<n/\0<=oM d pk P (cX g.Arena (xsM n m P g pk I t)) n m k (atP P (xsM n m P g pk I t)).toNat (I t)/\oM d pk P (cX g.Arena (xsM n m P g pk I t)) n m k (atP P (xsM n m P g pk I t)).toNat (I t)<k:=by
 obtain⟨v,a,o,p⟩:=zI h h0 hI t
 obtain⟨q,s,b,r,c,_,_,e⟩:=vo h a o p
 obtain⟨_,_,w,_,_,_,_,_,u,j,_,l,f,i⟩:=e (I t) (hI t)
 show atP P (fM pk P (cX g.Arena _) n m (atP P _).toNat (I t))=_/\_
 rw[dV c,dR a,b,Gb]
 exact⟨by rw[← j];exact(yb l).2.symm,by omega,by omega,f,i⟩
theorem Ct (O:∀a∈d.Pairs,(∀z∈a.Ask,z<(n:Int))/\∀z∈a.Give,z<(n:Int)){i:Nat}{a:Pair}(r:d.Pairs[i]? =some a):Well a.Ask a.Give λt=>atP P (xsM n m P g pk I t):=by
 have k:∀t,∃y:Int,tgt P (cX g.Arena (xsM n m P g pk I t)) ((n+((atP P (xsM n m P g pk I t)).toNat * m+I t):Nat):Int)=y/\(n:Int)<=atP P y/\Par.Rg (Xn P.length) (wB W) false (xsM n m P g pk I t)/\(gI g).own (xsM n m P g pk I t)=true/\(gI g).E (xsM n m P g pk I t) y/\Par.Rg (Xn P.length) (wB W) false y/\(gI g).E y (xsM n m P g pk I (t+1))/\xsM n m P g pk I (t+1)=pkL pk y:=λt=>by
  obtain⟨v,e,Z,f⟩:=zI h h0 hI t
  have o:Xn P.length (xsM n m P g pk I t):=⟨(eh e).1,(eh e).2.1⟩
  obtain⟨p,q,aa,M,R,j,T,Q⟩:=h.state e Z
  obtain⟨l,G,_⟩:=xe (Q (I t) (hI t))
  show ∃y:Int,_/\_/\_/\_/\_/\_/\(gI g).E y (fM pk P (cX g.Arena _) n m (atP P _).toNat (I t))/\fM pk P (cX g.Arena _) n m (atP P _).toNat (I t)=pkL pk y
  rw[dV j,dR e,M,Gb]
  have c:=(T _ l).1
  have w:=h.yours o (by rw[p,f];simp) ((mU j).2 l) c
  obtain⟨Y,_⟩:=h.mid c R (hI t) G
  obtain⟨to,V,_,U,_⟩:=h.mine c (by rw[Y,w,f])
  refine⟨_,rfl,by rw[G];omega,⟨o,f⟩,p,(mU j).2 l,⟨c,w.trans f⟩,?_,rfl⟩
  unfold fM
  rw[rP V];exact U
 have X:=h.even (q:=false) (π:=alt (xsM n m P g pk I) λt=>tgt P (cX g.Arena (xsM n m P g pk I t)) ((n+((atP P (xsM n m P g pk I t)).toNat * m+I t):Nat):Int)) (λt=>by
  rcases vh t with ⟨s,rfl⟩|⟨s,rfl⟩
  .obtain⟨y,b,x,A,B,C,D,E,F⟩:=k s
   rw[vO,ob,b]
   exact⟨A,C,λL=>absurd (B.symm.trans L) (by decide)⟩
  .obtain⟨y,b,x,A,B,C,D,E,F⟩:=k s
   rw[show 2 * s+1+1=2 * (s+1) by omega,vO,ob,b]
   exact⟨D,E,λ_=>F⟩) (ob _ _ 0) rfl r
 obtain⟨H,K⟩:=O a (FI r)
 have u:∀(S:VI),(∀z∈S,z<(n:Int))->∀t,atP P (tgt P (cX g.Arena (xsM n m P g pk I t)) ((n+((atP P (xsM n m P g pk I t)).toNat * m+I t):Nat):Int))∉S:=λS N t hm=>by
  obtain⟨y,b,x,_⟩:=k t
  rw[b]at hm
  have:=N _ hm
  omega
 exact(Cp (u _ H) (u _ K)).1 X
end
section
variable {p:Sig}{d:Det}{n m k:Nat}{A:Arena}{P:VL}{g:Parity}{W:Int->Prop}{pk:VI}(h:Cx d n m k A P g W pk) (h0:wB W 0=false) (hm:pw p.In=(m:Int)) (hk:pw p.Out=(k:Int)){j:Nat}(hj:∀i,i<j->i<(itM d n m k P g pk i).1.length) (hjl:j=(itM d n m k P g pk j).1.length){I:Nat->Int}(hI:∀t,0<=I t/\I t<m)
include h h0 hm hj hjl hI
theorem EG (t:Nat):0<=runM ⟨(itM d n m k P g pk j).2.1,(itM d n m k P g pk j).2.2⟩ I t/\(itM d n m k P g pk j).1[(runM ⟨(itM d n m k P g pk j).2.1,(itM d n m k P g pk j).2.2⟩ I t).toNat]? =some (xsM n m P g pk (λt=>(I t).toNat) t) /\
 letM p ⟨(itM d n m k P g pk j).2.1,(itM d n m k P g pk j).2.2⟩ I t=oM d pk P (cX g.Arena (xsM n m P g pk (λt=>(I t).toNat) t)) n m k (atP P (xsM n m P g pk (λt=>(I t).toNat) t)).toNat (I t).toNat * m+(I t).toNat:=by
 obtain⟨G,H,s⟩:=wl j hj
 have w:=gT h h0 j hj
 have u:∀(T:VV) (z:Int) a (i e:Int),0<=z->0<=i->T[z.toNat]? =some a->a[i.toNat]? =some e->tab T z i=e:=λT z a i e _ _ h1 h2=>by
  unfold tab
  rw[bR,bR,h1,Hc,h2,Hc]
 have B:∀t,0<=runM ⟨(itM d n m k P g pk j).2.1,(itM d n m k P g pk j).2.2⟩ I t/\(itM d n m k P g pk j).1[(runM ⟨(itM d n m k P g pk j).2.1,(itM d n m k P g pk j).2.2⟩ I t).toNat]? =some (xsM n m P g pk (λt=>(I t).toNat) t):=λt=>by
  induction t with
  |zero=>exact⟨Int.le_refl 0,w.zero⟩
  |succ t A=>
   obtain⟨f,b⟩:=A
   obtain⟨x,a,v,c,q,r,l⟩:=s _ (by rw[hjl];exact(C7.1 b).1)
   rw[b]at c
   cases c
   obtain⟨o,y⟩:=hI t
   obtain⟨⟨e,C,D,E⟩,_⟩:=l (I t).toNat (by omega)
   show 0<=tab (itM d n m k P g pk j).2.1 (runM _ I t) (I t)/\(itM d n m k P g pk j).1[(tab (itM d n m k P g pk j).2.1 (runM _ I t) (I t)).toNat]? =_
   rw[u _ _ a (I t) e f o q C]
   exact⟨D,E⟩
 obtain⟨f,b⟩:=B t
 obtain⟨x,a,v,c,q,r,l⟩:=s _ (by rw[hjl];exact(C7.1 b).1)
 rw[b]at c
 cases c
 obtain⟨o,y⟩:=hI t
 obtain⟨_,F⟩:=l (I t).toNat (by omega)
 refine⟨f,b,?_⟩
 unfold letM
 rw[hm]
 show tab (itM d n m k P g pk j).2.2 (runM _ I t) (I t) * (m:Int)+I t=_
 rw[u _ _ v (I t) _ f o r F]
 omega
include hk
end
theorem Az {p:Sig}{d:Det}(hd:detOk p d=true):∀c∈d.Pairs,(∀z∈c.Ask,z<(d.Next.length:Int))/\∀z∈c.Give,z<(d.Next.length:Int):=λx e=>by
 unfold detOk at hd
 simp only[ra]at hd
 have a:=hd.1.2
 unfold pairsOk at a
 rw[ra,Gc]at a
 have:=a.2 x e
 unfold pairOk at this
 rw[ra]at this
 exact⟨λz b=>((St.of this.1).rng z b).2,λz b=>((St.of this.2).rng z b).2⟩
inductive MadeBy (p:Sig) (cs:VC):Machine->Prop
 |mk {d:Det} {n m k:Nat} {A:Arena} {P:VL} {g:Parity} {W:Int->Prop} {pk:VI} (h1:cU p cs=some (d,true)) (S:Stq p cs d n m k A P g W pk) (hn:n<=16) (hp:d.Pairs.length<=2) (h0:wB W 0=false) {j:Nat} (hj:∀i,i<j->i<(itM d n m k P g pk i).1.length) (hjl:j=(itM d n m k P g pk j).1.length):MadeBy p cs ⟨(itM d n m k P g pk j).2.1,(itM d n m k P g pk j).2.2⟩
def nums (n:Nat):VI:=(GO n).map (λi:Nat=>(i:Int))
theorem vz (n:Nat):nums (n+1)=nums n++[(n:Int)]:=by simp[nums,GP]
def keyW (m:Machine) (d:Det) (ins q r j:Int):Key:=(tab m.Next q j,tab d.Next r (tab m.Out q j * ins+j))
abbrev St3:=List Key×VI×VI
def stepW (m:Machine) (d:Det) (ins q r:Int) (s:St3) (j:Int):St3:=(addK s.1 (keyW m d ins q r j),s.2.1++[atK s.1 (keyW m d ins q r j)],s.2.2++[tab m.Out q j * ins+j])
def rowW (m:Machine) (d:Det) (ins q r:Int) (K:List Key) (j:Nat):St3:=(nums j).foldl (stepW m d ins q r) (K,[],[])
theorem rV (m:Machine) (d:Det) (ins q r:Int) (K:List Key) (j:Nat):rowW m d ins q r K (j+1)=stepW m d ins q r (rowW m d ins q r K j) j:=by
 unfold rowW
 rw[vz,List.foldl_append];rfl
def Kin (a b:Int) (K:List Key):Prop:=∀k∈K,0<=k.1/\k.1<a/\0<=k.2/\k.2<b
section
variable {p:Sig}{m:Machine}{d:Det}(hm:machOk p m=true) (hd:detOk p d=true)
include hm hd
theorem zU {q r j:Int}(i:0<=q) (D:q<m.Next.length) (E:0<=r) (F:r<d.Next.length) (g:0<=j) (f:j<pw p.In):
 ∃b c e,idx m.Next q=some b/\idx b j=some (keyW m d (pw p.In) q r j).1/\idx m.Out q=some c/\idx c j=some (tab m.Out q j)/\idx d.Next r=some e/\idx e (tab m.Out q j * pw p.In+j)=some (keyW m d (pw p.In) q r j).2 /\
  0<=tab m.Out q j/\tab m.Out q j<4/\0<=(keyW m d (pw p.In) q r j).1/\(keyW m d (pw p.In) q r j).1<m.Next.length/\0<=(keyW m d (pw p.In) q r j).2/\(keyW m d (pw p.In) q r j).2<d.Next.length:=by
 obtain⟨_,_,H,A,B⟩:=gi hm
 obtain⟨_,_,_,C⟩:=eb hd
 obtain⟨b,k,l,n,o⟩:=r8 A i D g f
 obtain⟨c,s,t,u,G⟩:=r8 B i (by omega) g f
 have I:=iD p.Out
 have z:tab m.Out q j * pw p.In+j<ltd p:=by
  unfold ltd
  have a:pw p.In=2\/pw p.In=4:=by unfold pw;split <;> simp
  rcases a with a|a <;> rw[a]at f ⊢ <;> omega
 have h0:0<=tab m.Out q j * pw p.In+j:=by
  have a:pw p.In=2\/pw p.In=4:=by unfold pw;split <;> simp
  rcases a with a|a <;> rw[a] <;> omega
 obtain⟨e,v,w,x,y⟩:=r8 C E F h0 z
 exact⟨b,c,e,k,l,s,t,v,w,u,by omega,n,o,x,y⟩
theorem wN {q r:Int}(b:0<=q) (c:q<m.Next.length) (e:0<=r) (f:r<d.Next.length){K:List Key}(a:Kin m.Next.length d.Next.length K):∀(j:Nat),(j:Int)<=pw p.In ->
 Kin m.Next.length d.Next.length (rowW m d (pw p.In) q r K j).1/\K.length<=(rowW m d (pw p.In) q r K j).1.length/\(rowW m d (pw p.In) q r K j).1.length<=K.length+j/\(rowW m d (pw p.In) q r K j).2.1.length=j/\(rowW m d (pw p.In) q r K j).2.2.length=j /\
  (∀(i:Nat) v,K[i]? =some v->(rowW m d (pw p.In) q r K j).1[i]? =some v)
 |0,_=>⟨a,Fg _,by simp[rowW,nums],rfl,rfl,λ_ _ h=>h⟩
 |j+1,hj=>by
  obtain⟨h1,h2,x,g,l,n⟩:=wN b c e f a j (by omega)
  obtain⟨_,_,_,_,_,_,_,_,_,_,_,s,t,u,w⟩:=zU hm hd b c e f (j:=(j:Int)) (by omega) (by omega)
  rw[rV]
  generalize rowW m d (pw p.In) q r K j=F at *
  have hl:=xk F.1 (keyW m d (pw p.In) q r j)
  refine⟨λk hk=>?_,?_,?_,?_,?_,λi v o=>tm (n i v o)⟩
  .rcases xl hk with hk|rfl
   .exact h1 k hk
   .exact⟨s,t,u,w⟩
  .show K.length<=(addK F.1 _).length
   omega
  .show(addK F.1 _).length<=_
   omega
  .show(F.2.1++[_]).length=_
   simp[g]
  .show(F.2.2++[_]).length=_
   simp[l]
end
abbrev WT:=List Key×Int×VV×VV×List (Key×Int)
def InvW (m:Machine) (d:Det) (k:Nat) (t:WT):Prop:=Kin m.Next.length d.Next.length t.1/\0<=t.2.1/\t.2.1<=t.1.length/\(t.2.2.1.length:Int)=t.2.1/\(t.2.2.2.1.length:Int)=t.2.1/\(∀a∈t.2.2.1,a.length=k)/\t.2.2.2.2=ixm 0 t.1/\t.1.length<=256
section
variable {p:Sig}{m:Machine}{d:Det}(hs:sigOk p=true) (hm:machOk p m=true) (hd:detOk p d=true){k:Nat}(hk:pw p.In=(k:Int))
include hs hm hd hk
theorem D4 {q r:Int}(e:0<=q) (g:q<m.Next.length) (l:0<=r) (n:r<d.Next.length){K:List Key}(w:Kin m.Next.length d.Next.length K) (hl:K.length<=1000){x42 x47:Key}(o:x42.1=q) (t:x47.2=r){row:VI}(v:idx m.Next q=some row):
 cntM (iZ p m d x42 x47 row) k 0 (K,[],[],ixm 0 K)=some (.inr ((rowW m d (pw p.In) q r K k).1,(rowW m d (pw p.In) q r K k).2.1,(rowW m d (pw p.In) q r K k).2.2,ixm 0 (rowW m d (pw p.In) q r K k).1)):=by
 obtain⟨aa,ab,ac,ad,ae⟩:=gi hm
 obtain⟨M,N,_,_⟩:=eb hd
 obtain⟨af,h1,h2⟩:=cg (f:=iZ p m d x42 x47 row) (λj s=>s=((rowW m d (pw p.In) q r K j).1,(rowW m d (pw p.In) q r K j).2.1,(rowW m d (pw p.In) q r K j).2.2,ixm 0 (rowW m d (pw p.In) q r K j).1)) k (s:=(K,[],[],ixm 0 K)) rfl (λj s hj hI=>by
  subst hI
  obtain⟨O,P,Q,R,S,T⟩:=wN hm hd e g l n w j (by omega)
  obtain⟨H,I,L,c,A,B,C,D,E,Y,Z,G,W,y,X⟩:=zU hm hd e g l n (j:=(j:Int)) (by omega) (by omega)
  rw[v]at c
  cases c
  refine⟨_,?_,rfl⟩
  rw[rV]
  have V:=iD p.In
  have U:0<=tab m.Out q j * pw p.In/\tab m.Out q j * pw p.In<=16:=by
   have a:pw p.In=2\/pw p.In=4:=by unfold pw;split <;> simp
   rcases a with a|a <;> rw[a] <;> omega
  unfold iZ
  rw[o,t,A,GA,B,GA,C,GA,dX hs,GA,D,GA,wr' (z:=tab m.Out q j * pw p.In) (by omega) (by omega),wr' (by omega) (by omega),E,GA]
  have b:kwI2 (keyW m d (pw p.In) q r j)=true:=ET G (by omega) y (by omega)
  unfold stepW
  generalize rowW m d (pw p.In) q r K j=F at *
  generalize keyW m d (pw p.In) q r j=u at *
  dsimp only
  rw[show((u.1,u.2):Key)=u from rfl,BJ F.1 b,GA]
  unfold addK atK
  cases x:loc F.1 u with
  |some i=>
   simp only[F7,cond_false,GA]
   rw[app1 (by omega) rfl,GA,app1 (by omega) rfl]
   rfl
  |none=>
   simp only[GB,cond_true]
   rw[BL b x,GA,app1 (by omega) rfl,GA,GA]
   dsimp only
   rw[app1 (by omega) rfl,GA,app1 (by omega) rfl]
   rfl)
 rw[h1,h2]
end
def partN (K:List Key) (S:VI):Nat->VI
 |0=>[]
 |j+1=>bif (match K[j]? with | some k=>S.any (λx=>k.2==x) | none=>false) then partN K S j++[(j:Int)] else partN K S j
theorem rN (K:List Key) (S:VI):∀j,(partN K S j).length<=j
 |0=>Fg _
 |j+1=>by
  have:=rN K S j
  unfold partN
  cases(match K[j]? with | some k=>S.any (λx=>k.2==x) | none=>false) with
  |false=>exact Nat.le_succ_of_le this
  |true=>simpa using this
def partP (K:List Key) (x:Pair):Pair:=⟨partN K x.Ask K.length,partN K x.Give K.length⟩
theorem D0 {a:WT}(hl:a.1.length<=1000) (x:Pair):cntM (i7 a x) a.1.length 0 ([],[])=some (.inr (partN a.1 x.Ask a.1.length,partN a.1 x.Give a.1.length)):=by
 obtain⟨d,b,c⟩:=cg (f:=i7 a x) (λj s=>s=(partN a.1 x.Ask j,partN a.1 x.Give j)) a.1.length (s:=([],[])) rfl (λj s hj hI=>by
  subst hI
  obtain⟨k,hk⟩:∃k,a.1[j]? =some k:=⟨_,ct hj⟩
  have:=rN a.1 x.Ask j
  have:=rN a.1 x.Give j
  refine⟨_,?_,rfl⟩
  unfold i7
  rw[bT,hk,GA,cP,GA,cP]
  conv=>rhs;unfold partN
  rw[hk]
  dsimp only
  cases x.Ask.any (λx=>k.2==x) <;> cases x.Give.any (λx=>k.2==x) <;> simp only[cond_true,cond_false,GA]
  .rw[app1 (by omega) rfl];rfl
  .rw[app1 (by omega) rfl];rfl
  .rw[app1 (by omega) rfl,GA,GA,app1 (by omega) rfl];rfl)
 rw[b,c]
def kyW (m:Machine) (d:Det) (ins:Int) (v:Key) (x:Int):Key:=keyW m d ins v.1 v.2 x
def letW (m:Machine) (ins:Int) (v:Key) (x:Int):Int:=tab m.Out v.1 x * ins+x
theorem vH (m:Machine) (d:Det) (ins:Int) (v:Key) (K:List Key):∀j:Nat,(rowW m d ins v.1 v.2 K j).1=(rowK (kyW m d ins v) K j).1/\(rowW m d ins v.1 v.2 K j).2.1=(rowK (kyW m d ins v) K j).2/\(rowW m d ins v.1 v.2 K j).2.2=(nums j).map (letW m ins v)
 |0=>⟨rfl,rfl,rfl⟩
 |j+1=>by
  obtain⟨h1,h2,b⟩:=vH m d ins v K j
  rw[rV]
  unfold stepW
  dsimp only
  have a:rowK (kyW m d ins v) K (j+1)=(addK (rowK (kyW m d ins v) K j).1 (kyW m d ins v j),(rowK (kyW m d ins v) K j).2++[atK (rowK (kyW m d ins v) K j).1 (kyW m d ins v j)]):=rfl
  rw[h1,h2,b,a,vz,FF]
  exact⟨rfl,rfl,rfl⟩
inductive RchW (ky:Key->Int->Key) (k:Nat):Key->Prop
 |zero:RchW ky k (0,0)
 |step {v:Key} {x:Nat} (h:RchW ky k v) (hx:x<k):RchW ky k (ky v x)
def ManyK (m:Machine) (d:Det) (ins:Int) (k:Nat):Prop:=∃a:List Key,256<a.length/\a.Nodup/\Kin m.Next.length d.Next.length a/\∀v∈a,RchW (kyW m d ins) k v
def InvX (m:Machine) (d:Det) (ins:Int) (k:Nat) (t:WT):Prop:=Prod (kyW m d ins) k t.1 t.2.1.toNat t.2.2.1/\t.2.2.2.1.length=t.2.2.1.length/\(∀(j:Nat) l,t.2.2.2.1[j]? =some l->∃v,t.1[j]? =some v/\l=(nums k).map (letW m ins v))/\∀v∈t.1,RchW (kyW m d ins) k v
theorem InvX.init (m:Machine) (d:Det) (ins:Int) (k:Nat):InvX m d ins k ([(0,0)],0,[],[],ixm 0 [(0,0)]):=⟨Prod.init _ _,rfl,λj b h=>by simp at h,λv a=>by rw[E7.1 a];exact .zero⟩
theorem InvX.step {m:Machine}{d:Det}{ins:Int}{k:Nat}{K:List Key}{i:Nat}{p a:VV}{w y:List (Key×Int)}(h:InvX m d ins k (K,(i:Int),p,a,w)){q r:Int}(e:K[i]? =some (q,r)):
 InvX m d ins k ((rowW m d ins q r K k).1,(i:Int)+1,p++[(rowW m d ins q r K k).2.1],a++[(rowW m d ins q r K k).2.2],y):=by
 obtain⟨h1,h2,o,c⟩:=h
 dsimp only at h1 h2 o c
 obtain⟨g,l,n⟩:=vH m d ins (q,r) K k
 dsimp only at g l n
 have f:=nt (kyW m d ins (q,r)) K k
 unfold InvX
 dsimp only
 rw[g,l,n]
 rw[Gb]at h1
 have hs:=h1.step e
 have C:=h1.rl
 refine⟨?_,by simp[h2],λj z hj=>?_,λv t=>?_⟩
 .rw[show((i:Int)+1).toNat=i+1 from by omega];exact hs
 .by_cases b:j<a.length
  .rw[Fw b]at hj
   obtain⟨v,A,B⟩:=o j z hj
   exact⟨v,f.pre j v A,B⟩
  .have hjl:=(C7.1 hj).1
   rw[C9]at hjl
   simp only[E1,Gh]at hjl
   have:j=i:=by omega
   subst this
   have s:a.length=j:=by omega
   rw[← s]at hj
   simp at hj
   exact⟨(q,r),f.pre j _ e,hj.symm⟩
 .rcases f.mem v t with h|⟨x,u,b⟩
  .exact c v h
  .rw[b];exact .step (c _ (FI e)) u
section
variable {p:Sig}{m:Machine}{d:Det}(hs:sigOk p=true) (hm:machOk p m=true) (hd:detOk p d=true){k:Nat}(hk:pw p.In=(k:Int))
include hs hm hd hk
structure WK (p:Sig) (m:Machine) (d:Det) (k:Nat) (K:List Key) (w:watch):Prop where
 prod:Prod (kyW m d (pw p.In)) k K K.length w.next
 kin:Kin m.Next.length d.Next.length K
 le:K.length<=256
 let_:w.letters.length=K.length/\∀(j:Nat) v,K[j]? =some v->w.letters[j]? =some ((nums k).map (letW m (pw p.In) v))
 pairs:w.pairs=d.Pairs.map (partP K)
omit hs hm hd hk in
theorem rO (K:List Key) (S:VI):∀j,j<=K.length->partN K S j=plK (·.2) K S j
 |0,_=>rfl
 |j+1,hj=>by
  have e:=rO K S j (by omega)
  have a:plK (·.2) K S (j+1)=plK (·.2) K S j++(match K[j]? with | some v=>if v.2∈S then[(j:Int)] else[] | none=>[]):=rfl
  have c:K[j]? =some K[j]:=ct (by omega)
  have b:partN K S (j+1)=bif (match K[j]? with | some k=>S.any (λx=>k.2==x) | none=>false) then partN K S j++[(j:Int)] else partN K S j:=rfl
  rw[a,b,e,c]
  dsimp only
  by_cases h:K[j].2∈S
  .have:S.any (λx=>K[j].2==x)=true:=List.any_eq_true.2 ⟨_,h,by simp⟩
   rw[this,cond_true,if_pos h]
  .have:S.any (λx=>K[j].2==x)=false:=by
    rw[List.any_eq_false];intro x d;simp;exact λa=>h (a ▸ d)
   rw[this,cond_false,if_neg h,G7]
end
section
open Classical
inductive Wy (sc:Int->VI) (D:Int->Prop):Int->Int->Prop
 |one {x} (h:¬D x):Wy sc D x x
 |cons {x y z} (h:¬D x) (e:y∈sc x) (w:Wy sc D y z):Wy sc D x z
namespace Wy
variable {sc bk:Int->VI}{D D':Int->Prop}{x y z:Int}
theorem first (w:Wy sc D x y):¬D x:=by cases w <;> assumption
theorem last (w:Wy sc D x y):¬D y:=by induction w <;> assumption
theorem trans (w:Wy sc D x y) (v:Wy sc D y z):Wy sc D x z:=by
 induction w with
 |one _=>exact v
 |cons h a _ b=>exact .cons h a (b v)
theorem snoc (w:Wy sc D x y) (a:z∈sc y) (h:¬D z):Wy sc D x z:=w.trans (.cons w.last a (.one h))
theorem mono (h:∀x,D' x->D x) (w:Wy sc D x y):Wy sc D' x y:=by
 induction w with
 |one k=>exact .one λd=>k (h _ d)
 |cons k a _ b=>exact .cons (λd=>k (h _ d)) a b
theorem rev (b:∀x y,y∈bk x->x∈sc y) (w:Wy bk D x y):Wy sc D y x:=by
 induction w with
 |one k=>exact .one k
 |cons k a _ c=>exact c.snoc (b _ _ a) k
theorem closed {T:Int->Prop}(e:∀b a,T b->a∈sc b->¬D a->T a) (w:Wy sc D x y) (c:T x):T y:=by
 induction w with
 |one _=>exact c
 |cons _ d w f=>exact f (e _ _ c d w.first)
theorem either {T:Int->Prop}(e:∀a c,T a->c∈sc a->¬D c->T c) (w:Wy sc D x y):T y\/Wy sc (λa=>D a\/T a) x y:=by
 induction w with
 | @one x k=>
  by_cases t:T x
  .exact .inl t
  .exact .inr (.one λh=>h.elim k t)
 | @cons x y z k d w b=>
  rcases b with b|b
  .exact .inl b
  .by_cases t:T x
   .exact .inl (w.closed e (e _ _ t d w.first))
   .exact .inr (.cons (λh=>h.elim k t) d b)
theorem avoid {u:Int}(w:Wy sc D x y):Wy sc D x u\/Wy sc (λb=>D b\/b=u) x y:=by
 induction w with
 | @one x k=>
  by_cases t:x=u
  .subst t;exact .inl (.one k)
  .exact .inr (.one λh=>h.elim k t)
 | @cons x y z k c w a=>
  rcases a with a|a
  .exact .inl (.cons k c a)
  .by_cases t:x=u
   .subst t;exact .inl (.one k)
   .exact .inr (.cons (λh=>h.elim k t) c a)
end Wy
inductive Dfs (sc:Int->VI):(Int->Prop)->VI->VI->Prop
 |nil {D}:Dfs sc D [] []
 |skip {D u us S} (h:D u) (k:Dfs sc D us S):Dfs sc D (u::us) S
 |step {D u us S1 S2} (h:¬D u) (k1:Dfs sc (λx=>D x\/x=u) (sc u) S1) (k2:Dfs sc (λx=>D x\/x=u\/x∈S1) us S2):Dfs sc D (u::us) (S1++u::S2)
namespace Dfs
variable {sc bk:Int->VI}{D:Int->Prop}{us S:VI}
theorem out (k:Dfs sc D us S):∀x∈S,¬D x:=by
 induction k with
 |nil=>intro x h;cases h
 |skip _ _ ih=>exact ih
 |step h _ _ c e=>
  intro x a
  rcases E4.1 a with a|a
  .exact λd=>c x a (.inl d)
  .rcases E5.1 a with b|a
   .subst b;exact h
   .exact λd=>e x a (.inl d)
theorem nodup (k:Dfs sc D us S):S.Nodup:=by
 induction k with
 |nil=>exact List.nodup_nil
 |skip _ _ ih=>exact ih
 |step h f c d e=>
  refine Gq.2 ⟨d,GN.2 ⟨λhm=>c.out _ hm (.inr (.inl rfl)),e⟩,λg ha i b a=>?_⟩
  subst a
  rcases E5.1 b with a|b
  .exact f.out _ ha (.inr a)
  .exact c.out _ b (.inr (.inr ha))
theorem clo (k:Dfs sc D us S):(∀b∈us,D b\/b∈S)/\∀x∈S,∀y∈sc x,D y\/y∈S:=by
 induction k with
 |nil=>exact⟨λb h=>(by cases h),λb h=>(by cases h)⟩
 |skip h _ ih=>
  refine⟨λb g=>?_,ih.2⟩
  rcases E5.1 g with c|g
  .subst c;exact .inl h
  .exact ih.1 b g
 | @step D b us f S2 h o p l n=>
  have i:∀y,(D y\/y=b)\/y∈f->D y\/y∈f++b::S2:=λy e=>by
   rcases e with (d|c)|m
   .exact .inl d
   .subst c;exact .inr (by simp)
   .exact .inr (by simp[m])
  have j:∀y,(D y\/y=b\/y∈f)\/y∈S2->D y\/y∈f++b::S2:=λy e=>by
   rcases e with (d|c|m)|m
   .exact .inl d
   .subst c;exact .inr (by simp)
   .exact .inr (by simp[m])
   .exact .inr (by simp[m])
  refine⟨λx a=>?_,λx a y e=>?_⟩
  .rcases E5.1 a with c|a
   .subst c;exact .inr (by simp)
   .exact j _ (n.1 x a)
  .rcases E4.1 a with a|a
   .exact i _ (l.2 x a y e)
   .rcases E5.1 a with c|a
    .subst c;exact i _ (l.1 y e)
    .exact j _ (n.2 x a y e)
theorem sound (k:Dfs sc D us S):∀x∈S,∃b∈us,Wy sc D b x:=by
 induction k with
 |nil=>intro x h;cases h
 |skip _ _ ih=>
  intro x a
  obtain⟨b,h1,h2⟩:=ih x a
  exact⟨b,FG _ h1,h2⟩
 | @step D b us i S2 h j l f g=>
  intro x a
  rcases E4.1 a with a|a
  .obtain⟨c,h1,h2⟩:=f x a
   exact⟨b,by simp,.cons h h1 (h2.mono λ_ d=> .inl d)⟩
  .rcases E5.1 a with e|a
   .subst e;exact⟨x,by simp,.one h⟩
   .obtain⟨c,h1,h2⟩:=g x a
    exact⟨c,FG _ h1,h2.mono λ_ d=> .inl d⟩
theorem mem_iff (k:Dfs sc D us S) (x:Int):x∈S↔∃c∈us,Wy sc D c x:=by
 refine⟨k.sound x,λ⟨c,h1,h2⟩=>?_⟩
 have d:∀a b,a∈S->b∈sc a->¬D b->b∈S:=λa b ha e hd=>(k.clo.2 a ha b e).resolve_left hd
 exact h2.closed (T:=λa=>a∈S) d ((k.clo.1 c h1).resolve_left h2.first)
theorem kos (k:Dfs sc D us S):∀x∈S,∀v,Wy sc D x v->∃e,Wy sc D x e/\Wy sc D e x/\∃A B,S=A++e::B/\(v∈A\/v=e):=by
 induction k with
 |nil=>intro x h;cases h
 |skip _ _ ih=>exact ih
 | @step D b us f S2 h l G z C=>
  intro x y v w
  have q:∀a g,(a∈f\/a=b)->g∈sc a->¬D g->(g∈f\/g=b):=λa g ha r hd=>by
   have:(D g\/g=b)\/g∈f:=by
    rcases ha with ha|ha
    .exact l.clo.2 a ha g r
    .subst ha;exact l.clo.1 g r
   rcases this with (d|c)|m
   .exact absurd d hd
   .exact .inr c
   .exact .inl m
  have p:Wy sc D x b->(x∈f\/x=b)->∃e,Wy sc D x e/\Wy sc D e x/\∃A B,f++b::S2=A++e::B/\(v∈A\/v=e):=λj u=>by
   refine⟨b,j,?_,f,S2,rfl,w.closed (T:=λa=>a∈f\/a=b) q u⟩
   rcases u with m|c
   .obtain⟨F,h1,h2⟩:=l.sound x m
    exact .cons h h1 (h2.mono λ_ d=> .inl d)
   .subst c;exact .one h
  rcases E4.1 y with m|m
  .by_cases j:Wy sc D x b
   .exact p j (.inl m)
   .rcases w.avoid (u:=b) with k|k
    .exact absurd k j
    .obtain⟨e,n,o,A,B,c,i⟩:=z x m v k
     exact⟨e,n.mono λ_ d=> .inl d,o.mono λ_ d=> .inl d,A,B++b::S2,by rw[c];simp,i⟩
  .rcases E5.1 m with c|m
   .subst c;exact p (.one w.first) (.inr rfl)
   .rcases w.either (T:=λa=>a∈f\/a=b) q with t|t
    .obtain⟨A,B,c⟩:=List.append_of_mem m
     refine⟨x,.one w.first,.one w.first,f++b::A,B,by rw[c];simp,.inl ?_⟩
     rcases t with t|t
     .simp[t]
     .simp[t]
    .have E:Wy sc (λa=>D a\/a=b\/a∈f) x v:=t.mono λa ha=>by
      rcases ha with d|c|s
      .exact .inl d
      .exact .inr (.inr c)
      .exact .inr (.inl s)
     obtain⟨e,n,o,A,B,c,i⟩:=C x m v E
     refine⟨e,n.mono λ_ d=> .inl d,o.mono λ_ d=> .inl d,f++b::A,B,by rw[c];simp,?_⟩
     rcases i with i|i
     .exact .inl (by simp[i])
     .exact .inr i
end Dfs
inductive Kos (bk:Int->VI):(Int->Prop)->VI->VV->Prop
 |nil {D}:Kos bk D [] []
 |skip {D v R P} (h:D v) (k:Kos bk D R P):Kos bk D (v::R) P
 |step {D v R S P} (h:¬D v) (d:Dfs bk D [v] S) (k:Kos bk (λx=>D x\/x∈S) R P):Kos bk D (v::R) (S::P)
def noV:Int->Prop:=λ_=>False
def Akin (sc:Int->VI) (x y:Int):Prop:=Wy sc noV x y/\Wy sc noV y x
section
variable {sc bk:Int->VI}
theorem Akin.refl (x:Int):Akin sc x x:=⟨.one id,.one id⟩
theorem Akin.symm {x y:Int}(h:Akin sc x y):Akin sc y x:=⟨h.2,h.1⟩
theorem Akin.trans {x y z:Int}(h:Akin sc x y) (k:Akin sc y z):Akin sc x z:=⟨h.1.trans k.1,k.2.trans h.2⟩
theorem ahead {Q R A B:VI}{v y:Int}(hn:(Q++v::R).Nodup) (c:Q++v::R=B++y::A) (h:v∈A):y∈Q:=by
 have i:y∈Q++v::R:=by rw[c];simp
 rcases E4.1 i with m|m
 .exact m
 .exfalso
  have h1:(B++y::A).Nodup:=by rw[← c];exact hn
  obtain⟨n,o,k⟩:=Gq.1 hn
  obtain⟨l,e,j⟩:=Gq.1 h1
  have f:v∉B:=λg=>j v g v (FG _ h) rfl
  -- v stands in A, so B ++ [y] is ahead of it: it is a part of Q
  rcases List.append_eq_append_iff.1 c with ⟨T,d,b⟩|⟨T,d,b⟩
  .cases T with
   |nil=>
    rw[G0]at b
    injection b with e3 e4
    subst e3
    exact(GN.1 e).1 h
   |cons t T=>
    injection b with e3 e4
    subst e3
    exact f (by rw[d];simp)
  .cases T with
   |nil=>
    rw[G0]at b
    injection b with e3 e4
    subst e3
    exact(GN.1 e).1 h
   |cons t T=>
    injection b with e3 e4
    subst e3
    exact k y (by rw[d];simp) y m rfl
theorem AJ {L:VI}(H:∀x y,y∈bk x↔x∈sc y){ac:VI}(hd:Dfs sc noV ac L) (W:∀c e,e∈sc c->c∈L):
 ∀(D:Int->Prop) (R:VI) (P:VV),Kos bk D R P->∀Q,L.reverse=Q++R->(∀x,D x↔∃q∈Q,Akin sc q x) ->
 (∀S∈P,S.Nodup/\∃v∈R,(¬D v)/\∀x,x∈S↔Akin sc v x)/\(∀v∈R,D v\/∃S∈P,v∈S)/\P.Pairwise (λS T=>∀x∈S,x∉T)/\∀S∈P,∀x∈S,¬D x:=by
 intro D R P hk
 induction hk with
 |nil=>exact λQ _ _=>⟨λS h=>(by cases h),λS h=>(by cases h),List.Pairwise.nil,λS h=>by cases h⟩
 | @skip D v R P h k o=>
  intro Q i g
  obtain⟨z,C,E,s⟩:=o (Q++[v]) (by rw[i];simp) (λx=>by
   rw[g]
   refine⟨λ⟨q,h1,h2⟩=>⟨q,by simp[h1],h2⟩,λ⟨q,h1,h2⟩=>?_⟩
   rcases E4.1 h1 with m|m
   .exact⟨q,m,h2⟩
   .rw[E7]at m
    subst m
    obtain⟨p,j,F⟩:=(g q).1 h
    exact⟨p,j,F.trans h2⟩)
  refine⟨λS l=>?_,λx b=>?_,E,s⟩
  .obtain⟨h1,y,h2,j⟩:=z S l
   exact⟨h1,y,FG _ h2,j⟩
  .rcases E5.1 b with a|b
   .subst a;exact .inl h
   .exact C x b
 | @step D v R S P h d k o=>
  intro Q i g
  have Z:v∈L:=by
   have:v∈L.reverse:=by rw[i];simp
   exact G9.1 this
  have l:∀x,x∈S↔Akin sc v x:=λx=>by
   rw[d.mem_iff]
   constructor
   .rintro⟨G,I,w⟩
    rw[E7]at I
    subst I
    have r:=w.rev (sc:=sc) (λc e a=>(H c e).1 a)
    have b:x∈L:=by
     cases r with
     |one _=>exact Z
     |cons _ a _=>exact W _ _ a
    obtain⟨O,M,N,A,B,a,n⟩:=hd.kos x b G (r.mono λ_ V=>V.elim)
    rcases n with n|n
    .exfalso
     have U:Q++G::R=B.reverse++O::A.reverse:=by rw[← i,a];simp
     have hn:(Q++G::R).Nodup:=by rw[← i];exact(List.reverse_perm L).nodup_iff.2 hd.nodup
     have Y:=ahead hn U (G9.2 n)
     exact w.last ((g x).2 ⟨O,Y,N,M⟩)
    .subst n;exact⟨N,M⟩
   .intro b
    refine⟨v,by simp,?_⟩
    have K:∀y,Akin sc v y->¬D y:=λy aa X=>by
     obtain⟨q,h1,h2⟩:=(g y).1 X
     exact h ((g v).2 ⟨q,h1,h2.trans aa.symm⟩)
    have ab:∀{c e:Int},Wy sc noV c e->Wy sc noV e c->Akin sc v e->Wy sc D c e:=λ{c e} w=>by
     induction w with
     |one _=>exact λ_ t=> .one (K _ t)
     | @cons c ad e h a w o=>exact λr t=> .cons (K _ (t.trans ⟨r,.cons h a w⟩)) a (o (r.snoc a id) t)
    exact(ab b.2 b.1 (Akin.refl v)).rev λc e a=>(H e c).2 a
  obtain⟨z,C,E,s⟩:=o (Q++[v]) (by rw[i];simp) (λx=>by
   show(D x\/x∈S)↔_
   rw[g,l]
   constructor
   .rintro(⟨q,h1,h2⟩|h2)
    .exact⟨q,by simp[h1],h2⟩
    .exact⟨v,by simp,h2⟩
   .rintro⟨q,h1,h2⟩
    rcases E4.1 h1 with m|m
    .exact .inl ⟨q,m,h2⟩
    .rw[E7]at m
     subst m;exact .inr h2)
  refine⟨λT f=>?_,λx b=>?_,List.pairwise_cons.2 ⟨λT f x b u=>s T f x u (.inr b),E⟩,λT f x b u=>?_⟩
  .rcases E5.1 f with a|f
   .subst a
    exact⟨d.nodup,v,by simp,h,l⟩
   .obtain⟨h1,y,h2,j,F⟩:=z T f
    exact⟨h1,y,FG _ h2,λk=>j (.inl k),F⟩
  .rcases E5.1 b with a|b
   .subst a;exact .inr ⟨S,by simp,(l x).2 (Akin.refl x)⟩
   .rcases C x b with (k|k)|⟨T,h1,h2⟩
    .exact .inl k
    .exact .inr ⟨S,by simp,k⟩
    .exact .inr ⟨T,FG _ h1,h2⟩
  .rcases E5.1 f with a|f
   .subst a;exact d.out x b u
   .exact s T f x b (.inl u)
end
end
section
open Classical
def Mk (n:Nat) (d:VB) (S:VI) (a:VB):Prop:=a.length=n/\∀x,In a x↔In d x\/x∈S
theorem Mk.cnt {n:Nat}{d a:VB}{S:VI}(h:Mk n d S a) (hn:S.Nodup) (hd:∀x∈S,¬In d x):cnt d+S.length<=cnt a:=by
 have h1:(cT d d.length++S).Nodup:=Gq.2 ⟨kF _ _,hn,λg ha b e c=>hd b e (c ▸ cM.1 ha)⟩
 have:=pp h1 (ys:=cT a a.length) (λx f=>cM.2 ((h.2 x).2 ((E4.1 f).imp cM.1 id)))
 rw[C9]at this
 exact this
theorem Mk.eq {n:Nat}{d a:VB}{S:VI}(h:Mk n d S a):In a=λx=>In d x\/x∈S:=funext λx=>propext (h.2 x)
theorem Dfs.nil_eq {sc:Int->VI}{D:Int->Prop}{S:VI}(k:Dfs sc D [] S):S=[]:=by cases k;rfl
theorem Dfs.cat {sc:Int->VI}{D:Int->Prop}{u:Int}{us S T:VI}(h:¬D u) (k:Dfs sc D [u] S) (k2:Dfs sc (λx=>D x\/x∈S) us T):Dfs sc D (u::us) (S++T):=by
 generalize e:[u]=l at k
 cases k with
 |nil=>cases e
 |skip b _=>
  injection e with e1 _
  subst e1;exact absurd b h
 | @step _ _ _ a S2 b f g=>
  injection e with e1 e2
  subst e1 e2
  have c:=g.nil_eq
  subst c
  have d:(λx=>D x\/x∈a++[u])=λx=>D x\/x=u\/x∈a:=funext λx=>propext (by simp only[E4,E7];constructor <;> (rintro(h|h|h) <;> simp[h]))
  rw[d]at k2
  have:=Dfs.step h f k2
  simpa using this
theorem CO {B:VB}{v:Int}(h:¬In B v) (h0:0<=v) (h1:v<B.length):idx B v=some false:=by rw[dC h0 h1,decide_eq_false h]
theorem setT {d:VB}{n:Nat}{v:Int}(hd:d.length=n) (h0:0<=v) (h1:v<n):∃y,setI d v true=some y/\Mk n d [v] y:=by
 obtain⟨y,b,hl⟩:=cY (xs:=d) (i:=v) true h0 (by omega)
 refine⟨y,b,by omega,λx=>?_⟩
 unfold In
 rw[de b,E7]
 by_cases a:x=v
 .rw[if_pos a];simp[a]
 .rw[if_neg a];simp[a]
abbrev VS:=VI×VB
theorem qo {v:Type}{f:Int->VS->Option (v⊕(VS⊕VS))}{sc:Int->VI}{M:VB}{n c0:Nat}:
 ∀(us:VI) (j:Nat) (a:VI) (d:VB),
 (∀(i:Nat) b a d,us[i]? =some b->d.length=n->a.length<=cnt d->c0<=cnt d ->
  (¬(In M b/\¬In d b)->f ((j+i:Nat):Int) (a,d)=some (.inr (.inr (a,d)))) /\
  (In M b->¬In d b->∃S c,f ((j+i:Nat):Int) (a,d)=some (.inr (.inr (a++S,c)))/\Mk n d S c/\Dfs sc (In d) [b] S)) ->
 d.length=n->a.length<=cnt d->c0<=cnt d ->
 ∃S c,cntM f us.length (j:Int) (a,d)=some (.inr (a++S,c))/\Mk n d S c/\Dfs sc (In d) (us.filter (λb=>decide (In M b))) S
 | [],j,a,d,_,hd,_,_=>⟨[],d,by rw[G7];rfl,⟨hd,λx=>by simp⟩,.nil⟩
 |b::us,j,a,d,h,hd,ho,hc=>by
  obtain⟨h1,h2⟩:=h 0 b a d rfl hd ho hc
  have s:∀(i:Nat) w a d,us[i]? =some w->d.length=n->a.length<=cnt d->c0<=cnt d ->
   (¬(In M w/\¬In d w)->f (((j+1)+i:Nat):Int) (a,d)=some (.inr (.inr (a,d)))) /\
   (In M w->¬In d w->∃S c,f (((j+1)+i:Nat):Int) (a,d)=some (.inr (.inr (a++S,c)))/\Mk n d S c/\Dfs sc (In d) [w] S):=λi w a d u=>by
   have:=h (i+1) w a d (by simpa using u)
   rw[show j+(i+1)=(j+1)+i from by omega]at this
   exact this
  by_cases hm:In M b/\¬In d b
  .obtain⟨S,r,t,g,q⟩:=h2 hm.1 hm.2
   have y:=g.cnt q.nodup q.out
   obtain⟨T,l,o,k,e⟩:=qo us (j+1) (a++S) r s g.1 (by rw[C9];omega) (by omega)
   refine⟨S++T,l,?_,⟨k.1,λx=>?_⟩,?_⟩
   .show FR (f (j:Int) (a,d)) _=_
    have m:f (j:Int) (a,d)=_:=t
    rw[m,GA]
    show cntM f us.length ((j:Int)+1) (a++S,r)=_
    have:((j:Int)+1)=((j+1:Nat):Int):=rfl
    rw[this,o,Fo]
   .rw[k.2,g.2,E4,or_assoc]
   .rw[Ge,if_pos (by simpa using hm.1)]
    rw[g.eq]at e
    exact Dfs.cat hm.2 q e
  .obtain⟨T,l,o,k,e⟩:=qo us (j+1) a d s hd ho hc
   refine⟨T,l,?_,k,?_⟩
   .show FR (f (j:Int) (a,d)) _=_
    have m:f (j:Int) (a,d)=_:=h1 hm
    rw[m,GA]
    exact o
   .rw[Ge]
    by_cases p:In M b
    .rw[if_pos (by simpa using p)]
     exact .skip (F9 λhn=>hm ⟨p,hn⟩) e
    .rw[if_neg (by simpa using p)]
     exact e
theorem yC:∀m,ck m=bZ m
 |0=>rfl
 |m+1=>by
  show cL (ck m)=cn (bZ m)
  rw[yC m];rfl
theorem zE {T:VV}{M:VB}{n:Nat}{sc:Int->VI}(F:T.length=n) (r:M.length=n) (hn:n<=256)
 (t:∀v a,idx T v=some a->∀c∈a,0<=c/\c<n) (hs:∀v a,In M v->idx T v=some a->sc v=a.filter (λc=>decide (In M c))):
 ∀(m:Nat) (v:Int) (b:VI) (d:VB),In M v->¬In d v->d.length=n->b.length<=cnt d->n<m+cnt d ->
 ∃S g,bZ m v T b d M=some (b++S,g)/\Mk n d S g/\Dfs sc (In d) [v] S
 |0,v,b,d,_,_,hd,_,hm=>absurd hm (by have:=ka d;omega)
 |m+1,v,b,d,hv,hdv,hd,s,hm=>by
  obtain⟨q,L⟩:=fl r hv
  obtain⟨y,I,l⟩:=setT hd q L
  obtain⟨a,p⟩:=cI (xs:=T) (i:=v) q (by omega)
  have G:=l.cnt (by simp) (λx w=>by rw[E7]at w;subst w;exact hdv)
  simp only[E1,Gh]at G
  have P:=ka y
  obtain⟨S,o,C,j,e⟩:=qo (f:=cm (bZ m) T M a) (sc:=sc) (M:=M) (n:=n) (c0:=cnt y) a 0 b y (λi c b d u hd s N=>by
   obtain⟨z,U⟩:=t v a p c (FI u)
   unfold cm
   rw[Nat.zero_add,bT,u,GA,dC (B:=M) z (by omega),GA,dC (B:=d) z (by omega)]
   refine⟨λH=>?_,λh1 h2=>?_⟩
   .by_cases h1:In M c
    .have h2:In d c:=F9 λh=>H ⟨h1,h⟩
     simp only[decide_eq_true h1,decide_eq_true h2,cond_true,GA,F7,cond_false]
    .simp only[decide_eq_false h1,cond_false,GA]
   .obtain⟨S,g,A,K,k⟩:=zE F r hn t hs m c b d h1 h2 hd s (by omega)
    refine⟨S,g,?_,K,k⟩
    simp only[decide_eq_true h1,decide_eq_false h2,cond_true,GA,GB,A]) l.1 (by omega) (Fg _)
  have O:=j.cnt e.nodup e.out
  have Q:=ka o
  have R:o.length=n:=j.1
  refine⟨S++[v],o,?_,⟨j.1,λx=>?_⟩,?_⟩
  .show cn (bZ m) v T b d M=_
   unfold cn
   rw[CO hdv q (by omega),GA,I,GA,p,GA]
   have D:cntM (cm (bZ m) T M a) a.length 0 (b,y)=_:=C
   rw[D,GA,bV]
   unfold ot
   dsimp only
   rw[app1 (by rw[C9];omega) rfl,GA,GA,Fo]
  .rw[j.2,l.2,E4,E7]
   constructor
   .rintro((h|h)|h)
    .exact .inl h
    .exact .inr (.inr h)
    .exact .inr (.inl h)
   .rintro(h|h|h)
    .exact .inl (.inl h)
    .exact .inr h
    .exact .inl (.inr h)
  .rw[← hs v a hv p,l.eq]at e
   have E:(λx=>In d x\/x∈[v])=λx=>In d x\/x=v:=funext λx=>propext (by rw[E7])
   rw[E]at e
   exact Dfs.step hdv e .nil
end
section
open Classical
structure Gr (N:VV) (M:VB) (n:Nat):Prop where
 ln:N.length=n
 lm:M.length=n
 le:n<=256
 row:∀v r,idx N v=some r->r.length<=10000/\∀u∈r,0<=u/\u<n
noncomputable def scN (N:VV) (M:VB) (v:Int):VI:=if In M v then((idx N v).getD []).filter (λa=>decide (In M a)) else[]
theorem gU {N:VV}{M:VB}{v u:Int}:u∈scN N M v↔In M v/\In M u/\∃a,idx N v=some a/\u∈a:=by
 unfold scN
 by_cases h:In M v
 .rw[if_pos h,Gj,decide_eq_true_eq]
  cases b:idx N v with
  |none=>simp
  |some a=>simp[h,and_comm]
 .rw[if_neg h];simp[h]
def rowI' (N:VV) (v:Int):VI:=(idx N v).getD []
def Far (sc:Int->VI) (v:Int):Prop:=∃y∈sc v,Wy sc noV y v
def Far2 (sc:Int->VI) (v u:Int):Prop:=∃y∈sc v,Wy sc noV y u
section
variable {sc:Int->VI}
theorem Wy.far {v u:Int}(w:Wy sc noV v u) (h:v≠u):Far2 sc v u:=by
 cases w with
 |one _=>exact absurd rfl h
 |cons _ a w=>exact⟨_,a,w⟩
theorem Far2.wy {v u:Int}(h:Far2 sc v u):Wy sc noV v u:=by
 obtain⟨y,h1,h2⟩:=h
 exact .cons id h1 h2
theorem Wy.snoc_in {D:Int->Prop}{v u:Int}(w:Wy sc D v u):v=u\/∃z,u∈sc z:=by
 induction w with
 |one _=>exact .inl rfl
 |cons _ a _ b=>
  rcases b with h|h
  .subst h;exact .inr ⟨_,a⟩
  .exact .inr h
theorem tn {v u:Int}(h:Akin sc v u) (a:v≠u):Far sc v/\Far sc u:=by
 obtain⟨y,h1,h2⟩:=h.1.far a
 obtain⟨z,b,c⟩:=h.2.far (Ne.symm a)
 exact⟨⟨y,h1,h2.trans h.2⟩,⟨z,b,c.trans h.1⟩⟩
theorem Far.akin {v u:Int}(h:Far sc v) (k:Akin sc v u):Far sc u:=by
 by_cases a:v=u
 .subst a;exact h
 .exact(tn k a).2
end
theorem pZ (B:VB) (j:Nat):Asc (cT B j):=by
 unfold cT
 rw[Asc,Hb]
 refine List.Pairwise.filter _ ?_
 exact List.pairwise_lt_range.imp λh=>by
  show(_:Int)<_
  exact Int.ofNat_lt.2 h
noncomputable def partG (N:VV) (M:VB) (v:Int):VI:=(cT M M.length).filter (λa=>decide (Akin (scN N M) v a))
def Lead (sc:Int->VI) (v:Int):Prop:=Far sc v/\∀w,w<v->¬Akin sc w v
noncomputable def loopsN (N:VV) (M:VB):VV:=((cT M M.length).filter (λv=>decide (Lead (scN N M) v))).map (partG N M)
section
variable {N:VV}{M:VB}
theorem fC {v u:Int}:u∈partG N M v↔In M u/\Akin (scN N M) v u:=by
 unfold partG
 rw[Gj,cM,decide_eq_true_eq]
theorem mO (v:Int):Asc (partG N M v):=(pZ _ _).filter _
theorem yc {v u:Int}(h:Akin (scN N M) v u):partG N M v=partG N M u:=
 mT (mO _) (mO _) λz=>by
  rw[fC,fC]
  exact⟨λ⟨a,b⟩=>⟨a,h.symm.trans b⟩,λ⟨a,b⟩=>⟨a,h.trans b⟩⟩
theorem od {v:Int}(h:Far (scN N M) v):In M v:=by
 obtain⟨y,h1,_⟩:=h
 exact(gU.1 h1).1
def hdI (l:VI):Int:=l.headD 0
theorem ud {v:Int}(h:Far (scN N M) v):∃t,partG N M v=hdI (partG N M v)::t/\Akin (scN N M) v (hdI (partG N M v))/\Lead (scN N M) (hdI (partG N M v)):=by
 have e:v∈partG N M v:=fC.2 ⟨od h,Akin.refl v⟩
 cases a:partG N M v with
 |nil=>rw[a]at e;cases e
 |cons x t=>
  have j:x∈partG N M v:=by rw[a];simp
  obtain⟨k,b⟩:=fC.1 j
  refine⟨t,rfl,b,h.akin b,λw d hk=>?_⟩
  have g:Akin (scN N M) v w:=b.trans hk.symm
  have f:w∈partG N M v:=fC.2 ⟨od (h.akin g),g⟩
  rw[a]at f
  have i:Asc (x::t):=by rw[← a];exact mO v
  rcases E5.1 f with c|c
  .have:w<w:=by rw[← c]at d;exact d
   omega
  .have:=(List.pairwise_cons.1 i).1 w c
   have:w<x:=d
   omega
theorem CV {v:Int}(h:Lead (scN N M) v):hdI (partG N M v)=v:=by
 obtain⟨t,h1,h2,c⟩:=ud h.1
 have a:=h.2 (hdI (partG N M v))
 have b:=c.2 v
 have e:¬hdI (partG N M v)<v:=λk=>a k h2.symm
 have d:¬v<hdI (partG N M v):=λk=>b k h2
 omega
theorem CW {a b:Int}{s t:VI}(h:leI (a::s) (b::t)=true) (d:a≠b):a<b:=by
 unfold leI lexI at h
 have:¬Go.Lib.compareInt a b=0:=λc=>d (cmpI_eq.1 c)
 rw[if_neg this,decide_eq_true_eq]at h
 exact cmpI_lt.1 (by omega)
theorem zB {P:VV}(h1:∀S∈P,∃v,Far (scN N M) v/\S=partG N M v) (h2:∀v,Far (scN N M) v->partG N M v∈P) (r:P.Pairwise (λS T=>∀x∈S,x∉T)):P.mergeSort leI=loopsN N M:=by
 have j:∀S∈P,S=partG N M (hdI S)/\Lead (scN N M) (hdI S)/\∃t,S=hdI S::t:=λS a=>by
  obtain⟨v,q,e⟩:=h1 S a
  obtain⟨t,m,n,o⟩:=ud q
  rw[← e]at m n o
  exact⟨e.trans (yc n),o,t,m⟩
 have k:=Ha P leI
 have d:∀S∈P.mergeSort leI,S=partG N M (hdI S)/\Lead (scN N M) (hdI S)/\∃t,S=hdI S::t:=λS a=>j S (k.mem_iff.1 a)
 have y:(P.map hdI).Nodup:=by
  rw[List.Nodup,Hb]
  refine r.imp_of_mem λ{S T} a i hd e=>?_
  obtain⟨_,_,s,f⟩:=j S a
  obtain⟨_,_,t,g⟩:=j T i
  refine hd (hdI S) (by rw[f];simp[hdI]) ?_
  rw[g,← e];simp[hdI]
 have l:((P.mergeSort leI).map hdI).Nodup:=((k.map hdI).nodup_iff).2 y
 have A:(P.mergeSort leI).Pairwise (λb c=>leI b c=true):=List.pairwise_mergeSort (λb c p=>leI_trans b c p) (λb c=>leI_total b c) P
 have u:Asc ((P.mergeSort leI).map hdI):=by
  rw[Asc,Hb]
  rw[List.Nodup,Hb]at l
  refine(List.Pairwise.and A l).imp_of_mem λ{S T} a i ⟨b,c⟩=>?_
  obtain⟨_,_,s,f⟩:=d S a
  obtain⟨_,_,t,g⟩:=d T i
  rw[f,g]at b
  exact CW b c
 have w:(P.mergeSort leI)=((P.mergeSort leI).map hdI).map (partG N M):=by
  rw[List.map_map]
  conv=>lhs;rw[← List.map_id (P.mergeSort leI)]
  exact List.map_congr_left λS a=>(d S a).1
 rw[w]
 unfold loopsN
 congr 1
 refine mT u ((pZ _ _).filter _) λz=>?_
 rw[FH,Gj,cM,decide_eq_true_eq]
 constructor
 .rintro⟨S,a,rfl⟩
  exact⟨od (d S a).2.1.1,(d S a).2.1⟩
 .rintro⟨_,hl⟩
  exact⟨partG N M z,k.mem_iff.2 (h2 z hl.1),CV hl⟩
end
end
section
open Classical
section
variable {N:VV}{M:VB}{n:Nat}(g:Gr N M n)
include g
theorem Cz:∃B,cntM (gM N M) N.length 0 (FK n [])=some (.inr B)/\B.length=n/\∀a:Int,0<=a->a<n->∃b,idx B a=some b/\∀v,v∈b↔a∈scN N M v:=by
 have hn:=g.le
 obtain⟨B,h1,h2,c⟩:=cg (f:=gM N M) (λj (B:VV)=>B.length=n/\∀a:Int,0<=a->a<n->∃b,idx B a=some b/\b.length<=j * 10000/\∀v,v∈b↔v<(j:Int)/\a∈scN N M v) N.length (s:=FK n []) ⟨by simp,λa d o=>⟨[],by rw[cN d,GH,if_pos (by omega)],by simp,λv=>by
  constructor
  .intro h;cases h
  .rintro⟨h,k⟩
   have:=(fl g.lm (gU.1 k).1).1
   omega⟩⟩ (λj B hj ⟨F,G⟩=>by
  have q:N[j]? =some N[j]:=ct hj
  generalize N[j]=row at q
  obtain⟨S,P⟩:=g.row (j:Int) row (by rw[bT];exact q)
  unfold gM
  rw[bT,q,GA]
  have R:j<n:=by rw[← g.ln];exact hj
  obtain⟨C,K,L,O⟩:=cg (f:=kq M (j:Int) row) (λi (B:VV)=>B.length=n/\∀a:Int,0<=a->a<n->∃b,idx B a=some b/\b.length<=j * 10000+i/\∀v,v∈b↔(v<(j:Int)/\a∈scN N M v)\/(v=(j:Int)/\In M v/\In M a/\a∈row.take i)) row.length (s:=B) ⟨F,λa d o=>by
   obtain⟨b,e,m,l⟩:=G a d o
   exact⟨b,e,Nat.le_trans m (Nat.le_add_right _ _),λv=>by rw[l];simp⟩⟩ (λi B H ⟨z,t⟩=>by
   have r:row[i]? =some row[i]:=ct H
   generalize row[i]=d at r
   obtain⟨x,Q⟩:=P d (FI r)
   have u:row.take (i+1)=row.take i++[d]:=by rw[Gv,r];rfl
   have E:¬(In M (j:Int)/\In M d)->∀a:Int,0<=a->a<n->∃b,idx B a=some b/\b.length<=j * 10000+(i+1)/\∀v,v∈b↔(v<(j:Int)/\a∈scN N M v)\/(v=(j:Int)/\In M v/\In M a/\a∈row.take (i+1)):=λI a w y=>by
    obtain⟨b,e,m,l⟩:=t a w y
    refine⟨b,e,by omega,λv=>?_⟩
    rw[l,u]
    constructor
    .rintro(h|⟨h,h1,h2,c⟩)
     .exact .inl h
     .exact .inr ⟨h,h1,h2,List.mem_append_left _ c⟩
    .rintro(h|⟨h,h1,h2,c⟩)
     .exact .inl h
     .rcases E4.1 c with c|c
      .exact .inr ⟨h,h1,h2,c⟩
      .rw[E7]at c
       exact absurd ⟨h ▸ h1,c ▸ h2⟩ I
   unfold kq
   rw[bT,r,GA,dC (B:=M) (by omega) (by rw[g.lm];omega),GA,dC (B:=M) x (by rw[g.lm];omega)]
   by_cases h1:In M (j:Int)
   .by_cases h2:In M d
    .obtain⟨b,e,m,l⟩:=t d x Q
     obtain⟨B',D,hl⟩:=cY (xs:=B) (i:=d) (b++[(j:Int)]) x (by omega)
     simp only[decide_eq_true h1,decide_eq_true h2,cond_true,GA,e,app1 (show b.length<=10000000000 by omega) (show Nat.ble 8 1024=true from rfl),D]
     refine⟨_,rfl,by omega,λa w y=>?_⟩
     rw[de D]
     by_cases p:a=d
     .subst p
      rw[if_pos rfl]
      refine⟨_,rfl,by rw[C9];simp only[E1,Gh];omega,λv=>?_⟩
      rw[E4,l,E7,u]
      constructor
      .rintro((h|⟨h,h1,h2,c⟩)|h)
       .exact .inl h
       .exact .inr ⟨h,h1,h2,List.mem_append_left _ c⟩
       .subst h;exact .inr ⟨rfl,h1,h2,by simp⟩
      .rintro(h|⟨h,h1,h2,c⟩)
       .exact .inl (.inl h)
       .exact .inr h
     .rw[if_neg p]
      obtain⟨b,e,m,l⟩:=t a w y
      refine⟨b,e,by omega,λv=>?_⟩
      rw[l,u,E4,E7]
      simp[p]
    .simp only[decide_eq_true h1,decide_eq_false h2,cond_true,GA,cond_false]
     exact⟨_,rfl,z,E λh=>h2 h.2⟩
   .simp only[decide_eq_false h1,GA,cond_false]
    exact⟨_,rfl,z,E λh=>h1 h.1⟩)
  rw[K,GA,bV]
  refine⟨_,rfl,L,λa d o=>?_⟩
  obtain⟨b,e,m,l⟩:=O a d o
  refine⟨b,e,by omega,λv=>?_⟩
  rw[l,Gx]
  constructor
  .rintro(⟨h,k⟩|⟨h,h1,h2,c⟩)
   .exact⟨by omega,k⟩
   .subst h
    exact⟨by omega,gU.2 ⟨h1,h2,row,by rw[bT];exact q,c⟩⟩
  .rintro⟨h,k⟩
   by_cases p:v=(j:Int)
   .subst p
    obtain⟨h1,h2,T,A,c⟩:=gU.1 k
    rw[bT,q]at A
    cases A
    exact .inr ⟨rfl,h1,h2,c⟩
   .exact .inl ⟨by omega,k⟩)
 refine⟨B,h1,h2,λa d o=>?_⟩
 obtain⟨b,e,m,l⟩:=c a d o
 refine⟨b,e,λv=>?_⟩
 rw[l]
 refine⟨λh=>h.2,λh=>⟨?_,h⟩⟩
 have:=(fl g.lm (gU.1 h).1).2
 rw[g.ln];exact this
def Many (N:VV) (S:VI):Prop:=1<S.length\/∃v∈S,∃a,idx N v=some a/\v∈a
noncomputable def keepP (N:VV) (P:VV):VV:=(P.filter (λS=>decide (Many N S))).map λS=>S.mergeSort λx y=>decide (x<=y)
theorem pE {B:VV}{bk:Int->VI}(o:B.length=n) (u:∀v l,idx B v=some l->∀E∈l,0<=E/\E<n) (s:∀v l,In M v->idx B v=some l->bk v=l.filter (λE=>decide (In M E)))
 {L:VI} {d0:VB} (G:L.length<=256) (r:∀v∈L,In M v):
 ∀(k:Nat) (P0:VV) (d:VB) (F:Nat),k<=L.length->P0.length+k<=1000->d.length=n->k<F ->
 ∃P a,ci (dT N M B (L,d0)) F (P0,(k:Int)-1,d)=some (.inr (P0++keepP N P,-1,a))/\Kos bk (In d) ((L.take k).reverse) P
 |_,_,_,0,_,_,_,h=>absurd h (Gy _)
 |0,P0,d,F+1,_,_,hd,_=>⟨[],d,by
  show FR (dT N M B (L,d0) (P0,((0:Nat):Int)-1,d)) _=_
  have:keepP N []=[]:=rfl
  rw[this,G7]
  rfl,.nil⟩
 |k+1,P0,d,F+1,hk,hP,hd,hF=>by
  have hn:=g.le
  have e:L[k]? =some L[k]:=ct (by omega)
  generalize L[k]=x at e
  have U:=r x (FI e)
  obtain⟨I,ai⟩:=fl g.lm U
  have ac:(L.take (k+1)).reverse=x::(L.take k).reverse:=by rw[Gv,e];simp
  have W:((k+1:Nat):Int)-1=(k:Int):=by omega
  have K:IntKind.wrap .i64 ((k:Int)-1)=(k:Int)-1:=wr' (by omega) (by omega)
  rw[ac,W]
  show ∃P a,FR (dT N M B (L,d0) (P0,(k:Int),d)) _=_/\_
  by_cases b:In d x
  .obtain⟨P,a,w,j⟩:=pE o u s G r k P0 d F (by omega) (by omega) hd (by omega)
   have D:dT N M B (L,d0) (P0,(k:Int),d)=some (.inr (.inr (P0,(k:Int)-1,d))):=by
    unfold dT
    dsimp only
    rw[decide_eq_true (show(0:Int)<=(k:Int) by omega),cond_true,bT,e,GA,dC (B:=d) I (by omega),GA,K,decide_eq_true b,cond_true]
   rw[D,GA]
   exact⟨P,a,w,.skip b j⟩
  .obtain⟨S,m,ah,C,f⟩:=zE o g.lm hn u s (2 ^ 64) x [] d U b hd (Gz _) (by have:=ka d;omega)
   have c:x∈S:=(f.mem_iff x).2 ⟨x,by simp,.one b⟩
   have O:0<S.length:=List.length_pos_of_mem c
   have an:=C.cnt f.nodup f.out
   have am:=ka m
   have Q:=C.1
   obtain⟨ag,H⟩:=cI (xs:=N) (i:=x) I (by rw[g.ln];exact ai)
   have X:(FR (bif decide (1<(S.length:Int)) then some true else FR (idx N x) λaj=>FR (ca aj x) λak=>some ak) λp=>if p=decide (Many N S) then some () else none)=some ():=by
    by_cases h1:1<S.length
    .rw[decide_eq_true (show(1:Int)<(S.length:Int) by omega),cond_true,GA,if_pos]
     exact(decide_eq_true (.inl h1)).symm
    .rw[decide_eq_false (show ¬(1:Int)<(S.length:Int) by omega),cond_false,H,GA,cP,GA,GA,if_pos]
     rw[Bool.eq_iff_iff,List.any_eq_true,decide_eq_true_eq]
     constructor
     .rintro⟨y,af,V⟩
      have:x=y:=by simpa using V
      exact .inr ⟨x,c,ag,H,this ▸ af⟩
     .rintro(h|⟨v,A,ao,T,ad⟩)
      .exact absurd h h1
      .have ae:v=x:=by
        match S,O,h1,c,A with
        | [y],_,_,c,A=>
         rw[E7]at c A
         rw[c,A]
        |y::z::t,_,h1,_,_=>simp at h1
       subst ae
       rw[H]at T
       cases T
       exact⟨v,ad,by simp⟩
   obtain⟨p,aa,R⟩:=Option.bind_eq_some_iff.1 X
   have Z:p=decide (Many N S):=F9 λY=>by rw[if_neg Y]at R;cases R
   have ab:cr S=some (S.mergeSort λx y=>decide (x<=y)):=by
    unfold cr
    rw[if_pos ⟨O,by omega⟩]
   have D:dT N M B (L,d0) (P0,(k:Int),d)=FR (bif decide (Many N S) then FR (appS 24 P0 [S.mergeSort λx y=>decide (x<=y)]) λal=>some al else some P0) λq=>some (.inr (.inr (q,(k:Int)-1,m))):=by
    unfold dT
    dsimp only
    rw[decide_eq_true (show(0:Int)<=(k:Int) by omega),cond_true,bT,e,GA,dC (B:=d) I (by omega),GA,K,decide_eq_false b,cond_false,yC,ah,GA]
    dsimp only
    rw[G0,ab,GA,aa,GA,Z]
   by_cases hm:Many N S
   .have ha:appS 24 P0 [S.mergeSort λx y=>decide (x<=y)]=some (P0++[S.mergeSort λx y=>decide (x<=y)]):=app1 (by omega) rfl
    obtain⟨P,a,w,j⟩:=pE o u s G r k (P0++[S.mergeSort λx y=>decide (x<=y)]) m F (by omega) (by simp only[C9,E1,Gh];omega) Q (by omega)
    rw[D,decide_eq_true hm,cond_true,ha,GA,GA,GA]
    refine⟨S::P,a,?_,?_⟩
    .have:keepP N (S::P)=(S.mergeSort λx y=>decide (x<=y))::keepP N P:=by
      unfold keepP
      rw[Ge,if_pos (decide_eq_true hm)];rfl
     rw[this]
     rw[Fo]at w
     exact w
    .refine .step b f ?_
     rw[← C.eq];exact j
   .obtain⟨P,a,w,j⟩:=pE o u s G r k P0 m F (by omega) (by omega) Q (by omega)
    rw[D,decide_eq_false hm,cond_false,GA,GA]
    refine⟨S::P,a,?_,?_⟩
    .have:keepP N (S::P)=keepP N P:=by
      unfold keepP
      rw[Ge,if_neg (by simpa using hm)]
     rw[this];exact w
    .refine .step b f ?_
     rw[← C.eq];exact j
theorem CK:pc N M=some (loopsN N M):=by
 have hn:=g.le
 obtain⟨B,aq,au,Z⟩:=Cz g
 have af:∀v a,a∈rowI' B v↔v∈scN N M a:=λv a=>by
  unfold rowI'
  constructor
  .intro h
   cases b:idx B v with
   |none=>rw[b]at h;cases h
   |some H=>
    rw[b]at h
    obtain⟨C,Y⟩:=cO b
    obtain⟨aK,D,K⟩:=Z v C (by omega)
    rw[b]at D;cases D
    exact(K a).1 h
  .intro h
   obtain⟨C,Y⟩:=fl g.lm (gU.1 h).2.1
   obtain⟨aK,D,K⟩:=Z v C Y
   rw[D];exact(K a).2 h
 have ae:∀v a,a∈rowI' B v->In M v/\In M a:=λv a h=>by
  obtain⟨s,I,_⟩:=gU.1 ((af v a).1 h)
  exact⟨I,s⟩
 have U:∀v j,idx B v=some j->rowI' B v=j:=λv j b=>by unfold rowI';rw[b];rfl
 have aB:∀v j,idx B v=some j->rowI' B v=j.filter (λa=>decide (In M a)):=λv j b=>by
  rw[U v j b]
  symm
  rw[List.filter_eq_self]
  intro a l
  rw[← U v j b]at l
  exact decide_eq_true (ae v a l).2
 have aA:∀v j,idx B v=some j->∀a∈j,0<=a/\a<n:=λv j b a l=>by
  rw[← U v j b]at l
  exact fl g.lm (ae v a l).2
 have hs:∀v j,In M v->idx N v=some j->scN N M v=j.filter (λa=>decide (In M a)):=λv j h b=>by
  unfold scN
  rw[if_pos h,b];rfl
 have h0:∀x,¬In (FK n false) x:=λx o=>by
  obtain⟨aN,aQ⟩:=fl (n:=n) (by simp) o
  unfold In at o
  rw[cN aN,GH,if_pos (by omega)]at o
  cases o
 have r:In (FK n false)=noV:=funext λx=>propext ⟨λh=>h0 x h,λh=>h.elim⟩
 have ak:((GO n).map Int.ofNat).length=n:=by simp
 obtain⟨m,L,ab,ap,A⟩:=qo (f:=iX N M) (sc:=scN N M) (M:=M) (n:=n) (c0:=0) ((GO n).map Int.ofNat) 0 [] (FK n false) (λi a aH d l hd aC _=>by
  have O:i<n:=by have:=(C7.1 l).1;rwa [ak]at this
  have aE:a=(i:Int):=by
   rw[FA,G8 O]at l
   exact(GS l).symm
  subst aE
  rw[Nat.zero_add]
  unfold iX
  dsimp only
  rw[dC (B:=M) (by omega) (by rw[g.lm];omega),GA,dC (B:=d) (by omega) (by omega)]
  refine⟨λr=>?_,λh1 h2=>?_⟩
  .by_cases h1:In M (i:Int)
   .have h2:In d (i:Int):=F9 λh=>r ⟨h1,h⟩
    simp only[decide_eq_true h1,decide_eq_true h2,cond_true,GA,F7,cond_false]
   .simp only[decide_eq_false h1,cond_false,GA]
  .obtain⟨S,aa,b,aG,k⟩:=zE g.ln g.lm hn (λv j b=>(g.row v j b).2) hs (2 ^ 64) (i:Int) aH d h1 h2 hd aC (by have:=ka d;omega)
   refine⟨S,aa,?_,aG,k⟩
   simp only[decide_eq_true h1,decide_eq_false h2,cond_true,GA,GB,b]) (by simp) (Gz _) (Gz _)
 rw[ak]at ab
 rw[r]at A
 have ad:∀v,v∈m->In M v:=λv e=>by
  obtain⟨a,l,w⟩:=(A.mem_iff v).1 e
  have aD:In M a:=by simpa using (Gj.1 l).2
  cases w.snoc_in with
  |inl h=>exact h ▸ aD
  |inr h=>obtain⟨z,X⟩:=h;exact(gU.1 X).2.1
 have ac:∀v,In M v->v∈m:=λv e=>(A.mem_iff v).2 ⟨v,Gj.2 ⟨by
  obtain⟨C,Y⟩:=fl g.lm e
  obtain⟨i,O⟩:=dD C
  subst O
  exact FH.2 ⟨i,GM.2 (by omega),rfl⟩,by simpa using e⟩,.one id⟩
 have ax:m.length<=256:=by
  have:=ap.cnt A.nodup (λx _=>h0 x)
  have:=ka L
  have:=ap.1
  omega
 obtain⟨P,aa,w,ao⟩:=pE g (d0:=L) au aA (λv j _ b=>aB v j b) ax ad m.length [] (FK n false) (2 ^ 64) (Fg _) (by simp only[Gh];omega) (by simp) (by omega)
 rw[Gx,r]at ao
 obtain⟨G,aI,aJ,aP⟩:=AJ af A (λs I az=>ac s (gU.1 az).1) noV m.reverse P ao [] (by simp) (λx=>⟨λh=>h.elim,λ⟨q,h,_⟩=>by cases h⟩)
 have E:∀S∈P,∀v∈S,(∀x,x∈S↔Akin (scN N M) v x)/\In M v:=λS c v e=>by
  obtain⟨_,aL,h1,_,h2⟩:=G S c
  have W:=(h2 v).1 e
  refine⟨λx=>by rw[h2];exact⟨λh=>W.symm.trans h,λh=>W.trans h⟩,?_⟩
  by_cases b:aL=v
  .subst b;exact ad _ (G9.1 h1)
  .exact od (tn W b).2
 have ah:∀S∈P,∀v∈S,(S.mergeSort λx y=>decide (x<=y))=partG N M v:=λS c v e=>by
  obtain⟨Q,_⟩:=G S c
  obtain⟨h1,h2⟩:=E S c v e
  refine mT (uC Q) (mO _) λz=>?_
  rw[(Ha S _).mem_iff,fC]
  exact⟨λh=>⟨(E S c z h).2,(h1 z).1 h⟩,λh=>(h1 z).2 h.2⟩
 have ag:∀S∈P,∀v∈S,Many N S↔Far (scN N M) v:=λS c v e=>by
  obtain⟨h1,h2⟩:=E S c v e
  obtain⟨Q,_⟩:=G S c
  constructor
  .rintro(h|⟨a,l,H,R,V⟩)
   .have:∃z∈S,z≠v:=F9 λr=>by
     have:S.length<=[v].length:=pp Q λx o=>E7.2 (F9 λp=>r ⟨x,o,p⟩)
     simp only[E1,Gh]at this
     omega
    obtain⟨z,X,p⟩:=this
    exact(tn ((h1 z).1 X) (Ne.symm p)).1
   .have aj:=(E S c a l).2
    have:Far (scN N M) a:=⟨a,gU.2 ⟨aj,aj,H,R,V⟩,.one id⟩
    exact this.akin ((h1 a).1 l).symm
  .rintro⟨y,an,aM⟩
   by_cases h:1<S.length
   .exact .inl h
   .have F:y∈S:=(h1 y).2 ⟨.cons id an (.one id),aM⟩
    have:y=v:=by
     match S,h,e,F with
     | [s],_,e,F=>rw[E7]at e F;rw[e,F]
     |s::I::t,h,_,_=>simp at h
    subst this
    obtain⟨_,_,H,R,V⟩:=gU.1 an
    exact .inr ⟨y,e,H,R,V⟩
 have p:∀S∈P,∃v,v∈S:=λS c=>by
  obtain⟨_,v,_,_,h⟩:=G S c
  exact⟨v,(h v).2 (Akin.refl v)⟩
 have ai:(keepP N P).mergeSort leI=loopsN N M:=by
  refine zB (λT u=>?_) (λv e=>?_) ?_
  .unfold keepP at u
   obtain⟨S,c,rfl⟩:=FH.1 u
   obtain⟨c,hm⟩:=Gj.1 c
   obtain⟨v,e⟩:=p S c
   exact⟨v,(ag S c v e).1 (of_decide_eq_true hm),ah S c v e⟩
  .rcases aI v (G9.2 (ac v (od e))) with h|⟨S,c,al⟩
   .exact h.elim
   .unfold keepP
    exact FH.2 ⟨S,Gj.2 ⟨c,decide_eq_true ((ag S c v al).2 e)⟩,ah S c v al⟩
  .unfold keepP
   rw[Hb]
   refine(aJ.filter _).imp λ{S T} h x o am=>?_
   rw[(Ha _ _).mem_iff]at o am
   exact h x o am
 have aO:(keepP N P).length<=1000:=by
  have h1:(loopsN N M).length<=n:=by
   unfold loopsN
   rw[Gg]
   exact Nat.le_trans (List.length_filter_le _ _) (Nat.le_trans (iu _ _) (by rw[g.lm];exact Fg _))
  rw[← ai,List.length_mergeSort]at h1
  omega
 have ay:((keepP N P).all λaF=> !aF.isEmpty)=true:=by
  rw[Gc]
  intro T u
  unfold keepP at u
  obtain⟨S,c,rfl⟩:=FH.1 u
  obtain⟨v,e⟩:=p S (Gj.1 c).1
  have:=(Ha S λx y=>decide (x<=y)).mem_iff.2 e
  cases b:(S.mergeSort λx y=>decide (x<=y)) with
  |nil=>rw[b]at this;cases this
  |cons _ _=>rfl
 have aw:IntKind.wrap .i64 ((m.length:Int)-1)=(m.length:Int)-1:=wr' (by omega) (by omega)
 have av:cntM (iX N M) n 0 (([]:VI),FK n false)=some (.inr (m,L)):=by
  rw[← G0 m];exact ab
 have ar:cntM (gM N M) n 0 (FK n [])=some (.inr B):=by rw[← aq,g.ln]
 unfold pc
 rw[g.ln,dq (by omega) rfl,GA,ar,GA,bV,dq (by omega) rfl,GA,av,GA,bV,GA]
 dsimp only
 rw[aw,w,GA,bV]
 dsimp only
 rw[G0]
 unfold eC
 rw[if_pos ⟨by omega,ay⟩,GA,ai]
end
end
section
open Classical
def Lv (sc:Int->VI) (s:Int):Nat->Int->Prop
 |0,k=>k=s
 |t+1,k=>∃a∈sc k,Lv sc s t a
def Dm (sc:Int->VI) (s k:Int) (d:Nat):Prop:=Lv sc s d k/\∀a,a<d->¬Lv sc s a k
section
variable {sc:Int->VI}{s k:Int}
theorem Dm.uniq {d a:Nat}(h:Dm sc s k d) (b:Dm sc s k a):d=a:=by
 have c:=h.2 a
 have e:=b.2 d
 have:¬a<d:=λx=>c x b.1
 have:¬d<a:=λx=>e x h.1
 omega
theorem Lv.min {d:Nat}:Lv sc s d k->∃a,a<=d/\Dm sc s k a:=by
 induction d using Nat.strongRecOn with
 |ind d ih=>
  intro h
  by_cases hm:∃a,a<d/\Lv sc s a k
  .obtain⟨a,c,b⟩:=hm
   obtain⟨e,f,hd⟩:=ih a c b
   exact⟨e,by omega,hd⟩
  .exact⟨d,Fg _,h,λa c b=>hm ⟨a,c,b⟩⟩
theorem Dm.next {d:Nat}(h:Dm sc s k (d+1)):∃a∈sc k,Dm sc s a d:=by
 obtain⟨a,h1,h2⟩:=h.1
 exact⟨a,h1,h2,λb e c=>h.2 (b+1) (by omega) ⟨a,h1,c⟩⟩
theorem Lv.wy:∀{d:Nat}{k:Int},Lv sc s d k->Wy sc noV k s
 |0,k,h=>by
  have h:k=s:=h
  subst h;exact .one id
 |d+1,k,⟨u,h1,h2⟩=> .cons id h1 (Lv.wy h2)
theorem Wy.lv {k:Int}(w:Wy sc noV k s):∃d,Lv sc s d k:=by
 induction w with
 |one _=>exact⟨0,rfl⟩
 |cons _ a _ b=>
  obtain⟨d,h⟩:=b
  exact⟨d+1,_,a,h⟩
end
def At (sc:Int->VI) (s:Int) (t:Nat) (k x:Int):Prop:=(x= -1/\∀d,d<=t->¬Lv sc s d k)\/∃d:Nat,x=(d:Int)/\d<=t/\Dm sc s k d
theorem At.neg {sc:Int->VI}{s k x:Int}{t:Nat}(h:At sc s t k x):(x<0↔∀d,d<=t->¬Lv sc s d k):=by
 rcases h with ⟨h1,h2⟩|⟨d,h1,h2,a⟩
 .exact⟨λ_=>h2,λ_=>by omega⟩
 .exact⟨λh=>by omega,λh=>absurd a.1 (h d h2)⟩
theorem At.is {sc:Int->VI}{s k x:Int}{t b:Nat}(c:t<=b) (h:At sc s b k x):(x=(t:Int)↔Dm sc s k t):=by
 rcases h with ⟨h1,h2⟩|⟨d,h1,h2,a⟩
 .exact⟨λh=>by omega,λh=>absurd h.1 (h2 t c)⟩
 .exact⟨λh=>(show d=t by omega) ▸ a,λh=>by have:=a.uniq h;omega⟩
noncomputable def hitN (N:VV) (M:VB) (S:VI):VI:=S.filter λs=>decide (In M s/\Far (scN N M) s)
end
end Go.Proofs.YtldlmopdhmaceaaGreatDoor
