/- The loop of CounterOf: both sides compute the same; where the tables of the counter-strategy lead. -/
import Derived.Test.YtfombamjdkihnaaGreatL2EI
import Derived.Test.YtfombamjdkihnaaGreatL0EI
import Derived.Test.YtfombamjdkihnaaGreatL1EI
set_option linter.unusedVariables false
set_option linter.unusedSimpArgs false
open Bool renaming and_eq_true → C8, not_true → E5
open Classical renaming byContradiction → E8
open Int renaming toNat_natCast → Fb
open Go.IntKind renaming wrap → ET
open List renaming all_eq_true → Fc, filter_append → FD, getD_eq_getElem?_getD → o5, getElem?_append_left → Es, getElem?_append_right → Et, getElem?_drop → Ew, getElem?_eq_getElem → o7, getElem?_eq_none → FE, getElem?_eq_some_iff → DX, getElem?_map → Ex, getElem?_of_mem → Ff, getElem?_range → F2, getElem?_replicate → FF, length_append → DZ, length_map → Fh, length_range → FH, length_take → EB, map_append → EC, mem_append → D2, mem_filter → Fk, mem_map → EE, mem_of_getElem? → EF, mem_range → FI, mem_singleton → D4, pairwise_map → F3, range → FK, replicate → EH
open Nat renaming add_mul → D6, le_refl → Ec, mod_eq_of_lt → FM, mul_add_mod → F4, mul_comm → F5, mul_le_mul → FW, not_lt_zero → Fx, zero_add → Ef
open Option renaming bind → EO, bind_some → Fz, getD_some → F6
open Option.some renaming inj → EU
open Go.Proofs.YtfombamjdkihnaaGreat.Par renaming Io → F7
namespace Go.Proofs.YtfombamjdkihnaaGreat
open Go Go.Wk Go.Proofs
def inR9 (n m:Nat) (P:VL) (pk:VI) (x:Int):Int:=(atP P (pkL pk x)-n) % m
def nxR (d:Det) (n m:Nat) (P:VL) (g:Parity) (pk:VI) (x o:Int):Int:=tgt P (rowI g.Arena (pkL pk x)) (tab d.Next (atP P x) (o * m+inR9 n m P pk x))
theorem Dy {P:VL}{r:VI}{z:Int}(hr:∀a∈r,Xn P.length a):sU r P z=some (tgt P r z):=by
 unfold sU
 rw[eH (f:=n0 r P z) (λa=>atP P a==z) (λd=>r.getD d 0) (xs:=r) (λd a b=>by
  obtain⟨v,c,_⟩:=eB (xs:=P) (hr a (EF b)).1 (hr a (EF b)).2
  unfold n0
  rw[bH,b,Fz,c,Fz,eA c,Fz,o5,b]
  cases v.At==z <;> rfl)]
 unfold tgt toP
 cases r.findIdx? (λa=>atP P a==z) <;> rfl
theorem CS {P:VL}{r:VI}{z:Int}(hr:∀a∈r,Xn P.length a){j:Nat}(b:toP P r z=some j):cg r P z=some (j:Int):=by
 rw[ff (λa=>atP P a==z) (λa d=>by
  obtain⟨v,c,_⟩:=eB (xs:=P) (hr a d).1 (hr a d).2
  unfold jF
  rw[c,Fz,eA c])]
 unfold toP at b
 rw[b]
section
variable {p:Sig}(hs:sigOk p=true){d:Det}{n m k:Nat}{A:Arena}{P:VL}{g:Parity}{W:Int->Prop}{pk wn:VI}(h:Cx d n m k A P g W pk) (hm:pw p.In=(m:Int)) (hk:pw p.Out=(k:Int))
include hs h hm hk
theorem wZ {F:VI}(T:F.length<=256){v u:Place}{y:Int}{q i:Nat}{r:VI}(M:q<n) (hi:i<m) (N:v.At=(q:Int)) (hr:idx g.Arena.Next y=some r) (C:∀c∈r,Xn P.length c) (L:∀b:Nat,b<k->∃c∈r,atP P c=tab d.Next q ((b * m+i:Nat):Int)) (G:Int.tmod (ET .i64 (u.At-(d.Next.length:Int))) (m:Int)=(i:Int)):
 (∃c,bQ (gk p (d,true) (g,P,true) v y u (m:Int)) (2 ^ 64) (F,[],0)=some (.inr ((cV (λb=>tgt P r (tab d.Next q ((b * m+i:Nat):Int))) F k).1,(cV (λb=>tgt P r (tab d.Next q ((b * m+i:Nat):Int))) F k).2,c))) /\
 cntM (fV p d g P v y u (m:Int)) k 0 (F,[])=some (.inr (cV (λb=>tgt P r (tab d.Next q ((b * m+i:Nat):Int))) F k)):=by
 have V:=h.k4
 have W:=h.m4
 generalize hfe:(λb:Nat=>tgt P r (tab d.Next q ((b * m+i:Nat):Int)))=f
 have D:∀b,f b=tgt P r (tab d.Next q ((b * m+i:Nat):Int)):=λb=>by rw[← hfe]
 have H:∀a,a<=k->(cV f F a).1.length<=300/\(cV f F a).2.length=a:=by
  intro a
  induction a with
  |zero=>intro _;exact⟨by show F.length<=300;omega,rfl⟩
  |succ a B=>
   intro j
   have hle:(cV f F a).1.length<=F.length+a:=by
    clear B j
    induction a with
    |zero=>exact Ec _
    |succ a B=>
     show(addN _ _).length<=_
     unfold addN
     split
     .omega
     .rw[DZ];simp;omega
   obtain⟨_,K⟩:=B (by omega)
   refine⟨?_,by show((cV f F a).2++[_]).length=_;rw[DZ,K];rfl⟩
   show(addN _ _).length<=300
   unfold addN
   split
   .omega
   .rw[DZ];simp;omega
 have E:∀a:Nat,a<k->∃s,idx d.Next v.At=some s/\idx s ((a:Int) * (m:Int)+(i:Int))=some (tab d.Next q ((a * m+i:Nat):Int))/\∃o:Nat,toP P r (tab d.Next q ((a * m+i:Nat):Int))=some o/\r[o]? =some (f a):=λa j=>by
  obtain⟨s,t,w,_⟩:=h.cellAt M hi j
  obtain⟨_,_,o,z,A⟩:=wO (L a j)
  refine⟨s,by rw[N];exact t,?_,o,z,by rw[D];exact A⟩
  rw[← w]
  congr 1
 constructor
 .obtain⟨b,R,S⟩:=cE (f:=gk p (d,true) (g,P,true) v y u (m:Int)) (λa (e:VI×VI×Int)=>e=((cV f F a).1,(cV f F a).2,(a:Int))/\a<=k) (λ_=>False) (λe=>∃c,e=((cV f F k).1,(cV f F k).2,c)) k (λa e ⟨l,j⟩=>by
   subst l
   obtain⟨O,Q⟩:=H a j
   unfold gk fb
   dsimp only
   rw[da (db hs).2,hk,Fz,Fz]
   by_cases I:a<k
   .obtain⟨s,t,w,o,z,A⟩:=E a I
    rw[decide_eq_true (show(a:Int)<(k:Int) by omega),cond_true,hr,Fz,t,Fz,G]
    rw[oU hs (x:=(i:Int)) (o:=(a:Int)) (by omega) (by omega) (by omega) (by omega),hm,Fz,w,Fz,Dy C,Fz,← D,wo,Fz,rJ _ (by omega),Fz]
    dsimp only
    rw[app1 (by omega) rfl,Fz,wr' (by omega) (by omega)]
    exact⟨_,rfl,I,by rfl,by omega⟩
   .have:a=k:=by omega
    subst this
    rw[decide_eq_false (show ¬((a:Nat):Int)<(a:Int) by omega),cond_false]
    exact⟨_,rfl,_,rfl⟩) (2 ^ 64) 0 (F,[],0) (by omega) ⟨rfl,Nat.zero_le _⟩ (by omega)
  match b,S with
  |.inr e,⟨c,l⟩=>exact⟨c,by rw[R,l]⟩
 .obtain⟨e,h1,h2⟩:=bR (f:=fV p d g P v y u (m:Int)) (λa e=>e=cV f F a) k (s:=(F,[])) rfl (λa e j l=>by
   subst l
   obtain⟨O,Q⟩:=H a (by omega)
   obtain⟨s,t,w,o,z,A⟩:=E a j
   have U:a * m<=4 * 4:=FW (by omega) (by omega)
   have l:(a:Int) * (m:Int)=((a * m:Nat):Int):=by simp
   refine⟨cV f F (a+1),?_,rfl⟩
   unfold fV
   rw[t,Fz,dW hs,hm,Fz,G,wr' (z:=(a:Int) * (m:Int)) (by omega) (by omega),wr' (z:=(a:Int) * (m:Int)+(i:Int)) (by omega) (by omega),w,Fz,hr,Fz,CS C z,Fz,Fz,bH,A,Fz,oH,Fz,rJ _ (by omega),Fz]
   dsimp only
   rw[app1 (by omega) rfl,Fz]
   rfl)
  rw[h1,h2]
structure Ctr (N m k:Nat) (Q:Int->Prop) (ix:Int->Int) (nx:Int->Int->Int) (F:VI) (i:Nat) (In:VI) (Nx:VV):Prop where
 il:i<=F.length
 nm:Names N F
 all:∀x∈F,Q x
 zero:F[0]? =some 0
 inl:In.length=i
 nxl:Nx.length=i
 inr:∀x∈In,0<=x/\x<(m:Int)
 nxr:∀row∈Nx,row.length=k/\∀x∈row,0<=x/\x<(F.length:Int)
 tb:∀z,z<i->∃x row,F[z]? =some x/\In[z]? =some (ix x)/\Nx[z]? =some row/\∀o:Nat,o<k->∃u:Int,row[o]? =some u/\0<=u/\F[u.toNat]? =some (nx x o)
theorem vz (h0:wB W 0=true):∃a:VI×Int×VI×VV,bQ (eO p (d,true) (g,P,true) ⟨wn,pk⟩) (2 ^ 64) ([0],0,[],[])=some (.inr a)/\bQ (fU p d g P ⟨wn,pk⟩) (2 ^ 64) ([0],0,[],[])=some (.inr a)/\Ctr P.length m k (λx=>wB W x=true/\atP P x<(n:Int)) (inR9 n m P pk) (nxR d n m P g pk) a.1 a.1.length a.2.2.1 a.2.2.2:=by
 obtain⟨_,_,_,aU,aT,a2⟩:=h.len
 have a0:=h.m1
 have aw:=h.m4
 have aW:=h.k1
 have aX:=h.k4
 have ax:=h.n48
 obtain⟨aK,ah⟩:=eZ (db hs).2
 rw[hk]at ah
 have aB:rng (k:Int)=some ():=by unfold rng;rw[if_pos (by omega)]
 have au:Int.toNat ((k:Int)-0)=k:=by omega
 have az:nz (m:Int)=some ():=by unfold nz;rw[if_neg (by omega)]
 have aI:atP P 0<(n:Int):=by
  have w:=h.rg.game.zero
  rw[eA (v:=⟨0,firstR d.Pairs.length⟩) (by rw[show(0:Int)=((0:Nat):Int) from rfl,bH];exact w)]
  have:=h.n1
  show(0:Int)<_
  omega
 obtain⟨b,t,aP,aQ,aR⟩:=ng (f:=eO p (d,true) (g,P,true) ⟨wn,pk⟩) (g:=fU p d g P ⟨wn,pk⟩) (λa t=>a=t/\∃l:Nat,a.2.1=(l:Int)/\Ctr P.length m k (λx=>wB W x=true/\atP P x<(n:Int)) (inR9 n m P pk) (nxR d n m P g pk) a.1 l a.2.2.1 a.2.2.2) (λa=>300-a.2.1.toNat) (λ_ _=>False)
  (λa t=>a=t/\Ctr P.length m k (λx=>wB W x=true/\atP P x<(n:Int)) (inR9 n m P pk) (nxR d n m P g pk) a.1 a.1.length a.2.2.1 a.2.2.2) (λa t ⟨z,l,X,e⟩=>by
  subst z
  obtain⟨F,s,In,Nx⟩:=a
  dsimp only at X e
  subst X
  have aS:=e.nm.len
  unfold eO fU
  dsimp only
  by_cases av:l<F.length
  .have i:F[l]? =some F[l]:=o7 av
   generalize F[l]=x at i
   have af:=EF i
   have ad:Xn P.length x:=e.nm.2 x af
   obtain⟨I,ae⟩:=e.all x af
   obtain⟨v,D,a4,a5⟩:=h.place ad
   rw[eA D]at ae
   obtain⟨aA,q,a3,ac,C,aE,aC,_⟩:=h.state D ae
   obtain⟨B,K,L,aG,ag⟩:=h.mine ad (by rw[aA,I])
   obtain⟨_,j,u,M⟩:=aC B ((lJ aE).1 aG)
   obtain⟨y,ab,_,_⟩:=h.place L
   obtain⟨aH,r,hr,U,V⟩:=h.mid L C u M
   have aF:y.At=((n+(q * m+j):Nat):Int):=by rw[← eA ab];exact M
   have aZ:=tf (n:=n) C u
   have a1:n * m<=48 * 4:=FW ax aw
   have Y:Int.tmod (ET .i64 (y.At-(d.Next.length:Int))) (m:Int)=(j:Int):=by
    rw[aF,h.dl,wr' (by omega) (by omega),show((n+(q * m+j):Nat):Int)-(n:Int)=((q * m+j:Nat):Int) by omega,Int.tmod_eq_emod_of_nonneg (by omega)]
    have:(q * m+j) % m=j:=by
     rw[F5,F4]
     exact FM u
    omega
   obtain⟨⟨a6,ap⟩,aq⟩:=wZ hs h hm hk (F:=F) (v:=v) (u:=y) (y:=B) (by omega) C u ac hr (λs w=>(U s w).1) V Y
   have o:=tW (N:=P.length) (F:=F) (Q:=λx=>wB W x=true/\atP P x<(n:Int)) e.nm e.all (f:=λb=>tgt P r (tab d.Next q ((b * m+j:Nat):Int))) (c:=k) (λaJ aa=>by
    obtain⟨ai,aL,_⟩:=wO (V aJ aa)
    obtain⟨R,_⟩:=U _ ai
    obtain⟨_,_,_,_,E⟩:=h.cellAt C u aa
    refine⟨R.1,R.2,?_,by rw[aL];exact E⟩
    rw[h.yours L (by rw[aH,ag,I];simp) ((lJ hr).2 ai) R,ag,I]) k (Ec _)
   have ar:=λ(b:Nat) (A:b<k)=>xE (λb=>tgt P r (tab d.Next q ((b * m+j:Nat):Int))) F A
   have Z:inR9 n m P pk x=(j:Int):=by
    unfold inR9
    rw[oN K,M,show((n+(q * m+j):Nat):Int)-(n:Int)=((q * m+j:Nat):Int) by omega,← Int.natCast_emod,F5,F4,FM u]
   have ay:∀b:Nat,nxR d n m P g pk x b=tgt P r (tab d.Next q ((b * m+j:Nat):Int)):=λb=>by
    unfold nxR
    rw[Z,oN K,ey hr,eA D,ac]
    congr 2
   generalize cV (λb=>tgt P r (tab d.Next q ((b * m+j:Nat):Int))) F k=G at *
   have S:=e.inl
   have T:=e.nxl
   rw[decide_eq_true (show(l:Int)<(F.length:Int) by omega),cond_true,cond_true,bH,i,Fz,Fz,D,Fz,Fz,Fz,Fz,K,Fz,Fz,ab,Fz,Fz]
   unfold eY
   rw[da (db hs).1,dW hs,hm,Fz,Fz,Fz,az,Fz,Fz,aK,Fz,ah,aB,Fz,au,ap,aq,Fz,Fz,bK,bK,Y]
   dsimp only
   rw[app1 (xs:=In) (by omega) rfl,Fz,Fz,app1 (xs:=Nx) (by omega) rfl,Fz,Fz,wr' (by omega) (by omega)]
   have aY:=o.len
   refine⟨_,_,rfl,rfl,⟨rfl,l+1,by dsimp only;omega,⟨by dsimp only;omega,o.nm,o.all,o.pre 0 _ e.zero,by dsimp only;rw[DZ,S];rfl,by dsimp only;rw[DZ,T];rfl,λaj ha=>?_,λO aD=>?_,λs w=>?_⟩⟩,?_⟩
   .rcases D2.1 ha with ha|ha
    .exact e.inr aj ha
    .rw[D4.1 ha];omega
   .rcases D2.1 aD with H|H
    .obtain⟨ao,E⟩:=e.nxr O H
     exact⟨ao,λx i=>by have:=E x i;dsimp only;omega⟩
    .rw[D4.1 H]
     exact⟨o.rl,o.rin⟩
   .by_cases z:s=l
    .subst z
     exact⟨x,_,o.pre _ _ i,by rw[Z,Et (by omega),S,Nat.sub_self];rfl,by rw[Et (by omega),T,Nat.sub_self];rfl,λb A=>by rw[ay];exact ar b A⟩
    .obtain⟨B,O,ak,al,am,an⟩:=e.tb s (by omega)
     refine⟨B,O,o.pre _ _ ak,by rw[Es (by omega)];exact al,by rw[Es (by omega)];exact am,λb A=>?_⟩
     obtain⟨y,aM,aN,aO⟩:=an b A
     exact⟨y,aM,aN,o.pre _ _ aO⟩
   .dsimp only;omega
  .have aV:=e.il
   have:l=F.length:=by omega
   subst this
   rw[decide_eq_false (show ¬((F.length:Nat):Int)<(F.length:Int) by omega),cond_false,cond_false]
   exact⟨_,_,rfl,rfl,rfl,e⟩) (2 ^ 64) (2 ^ 64) ([0],0,[],[]) ([0],0,[],[]) (by dsimp only;omega) (by dsimp only;omega) ⟨rfl,0,rfl,⟨by simp,⟨by simp,λx i=>by rw[D4.1 i];omega⟩,λx i=>by rw[D4.1 i];exact⟨h0,aI⟩,rfl,rfl,rfl,λx i=>(by cases i),λx i=>(by cases i),λs w=>absurd w (Fx s)⟩⟩
 match b,t,aR with
 |.inr a,.inr t,⟨z,e⟩=>
  subst z
  exact⟨a,aP,aQ,e⟩
end
section
variable {p:Sig}(hs:sigOk p=true){d:Det}(hd:detOk p d=true) (hpb:∀x∈d.Pairs,x.Ask.length<=1000000000/\x.Give.length<=1000000000){n m k:Nat}{A:Arena}{P:VL}{g:Parity}{W:Int->Prop}{pk wn:VI}(h:Cx d n m k A P g W pk) (hm:pw p.In=(m:Int)) (hk:pw p.Out=(k:Int))
include hs hd hpb h hm hk
theorem CN {q i:Nat}(s:q<n) (hi:i<m) (z:Int):lK p d q i z=some (outsL d m k q i z):=by
 have B:=h.n48
 have A:=h.m4
 have y:=h.k4
 have j:cJ p=some (m:Int):=by rw[dW hs,hm]
 obtain⟨w,l⟩:=eZ (db hs).2
 rw[hk]at l
 have t:rng (k:Int)=some ():=by unfold rng;rw[if_pos (by omega)]
 have r:Int.toNat ((k:Int)-0)=k:=by omega
 unfold lK
 rw[jk,hs,Fz,E5,cond_false,rY hs hpb,hd,Fz,Fz,E5,cond_false,decide_eq_false (show ¬(q:Int)<0 by omega),Fz,cond_false,h.dl,decide_eq_false (show ¬(n:Int)<=(q:Int) by omega),Fz,cond_false,decide_eq_false (show ¬(i:Int)<0 by omega),Fz,cond_false,j,Fz,decide_eq_false (show ¬(m:Int)<=(i:Int) by omega),Fz,cond_false,w,Fz,l,t,Fz,r]
 obtain⟨c,h1,h2⟩:=bR (f:=iA p d q i z) (λa c=>c=outsL d m a q i z) k (s:=[]) rfl (λa c o e=>by
  subst e
  have hl:=Ae d m a q i z
  obtain⟨C,u,v,_⟩:=h.cellAt s hi o
  have x:a * m<=4 * 4:=FW (by omega) (by omega)
  have e:(a:Int) * (m:Int)=((a * m:Nat):Int):=by simp
  have b:=yK d m a q i z
  unfold iA
  rw[u,Fz,j,Fz,e,wr' (z:=((a * m:Nat):Int)) (by omega) (by omega),wr' (by omega) (by omega),show((a * m:Nat):Int)+(i:Int)=((a * m+i:Nat):Int) by omega,v,Fz]
  cases g:tab d.Next q ((a * m+i:Nat):Int)==z with
  |true=>
   rw[g,if_pos rfl]at b
   rw[cond_true,app1 (by omega) rfl,Fz,Fz]
   exact⟨_,rfl,b.symm⟩
  |false=>
   rw[g,if_neg (by simp),List.append_nil]at b
   rw[cond_false,Fz]
   exact⟨_,rfl,b.symm⟩)
 rw[h1,h2];rfl
omit hd hpb hk in
theorem DR {r:VI}(b:∀a∈r,Xn P.length a){q i:Nat}(l:q<n) (hi:i<m){j:Nat}(c:toP P r ((n+(q * m+i):Nat):Int)=some j):cd r P (n:Int) (q:Int) p (i:Int)=some (j:Int):=by
 have k:=h.n48
 have g:=h.m4
 have o:=tf (n:=n) l hi
 have s:n * m<=48 * 4:=FW k g
 have f:(q:Int) * (m:Int)=((q * m:Nat):Int):=by simp
 rw[fc (λa=>atP P a==((n+(q * m+i):Nat):Int)) (λa e=>by
  obtain⟨v,d,_⟩:=eB (xs:=P) (b a e).1 (b a e).2
  unfold jz
  rw[d,Fz,dW hs,hm,Fz,eA d,f,wr' (z:=((q * m:Nat):Int)) (by omega) (by omega),wr' (z:=(n:Int)+((q * m:Nat):Int)) (by omega) (by omega),wr' (by omega) (by omega),show(n:Int)+((q * m:Nat):Int)+(i:Int)=((n+(q * m+i):Nat):Int) by omega])]
 unfold toP at c
 rw[c]
end
def stM (d:Det) (n m k:Nat) (P:VL) (g:Parity) (pk:VI) (j:Nat):VI×Int×VV×VV:=((itM d n m k P g pk j).1,(j:Int),(itM d n m k P g pk j).2.1,(itM d n m k P g pk j).2.2)
section
variable {d:Det}{n m k:Nat}{A:Arena}{P:VL}{g:Parity}{W:Int->Prop}{pk:VI}(h:Cx d n m k A P g W pk) (h0:wB W 0=false)
include h h0
theorem BQ {j:Nat}(u:∀c,c<j->c<(itM d n m k P g pk c).1.length) (f:j<(itM d n m k P g pk j).1.length):∃x v q r,(itM d n m k P g pk j).1[j]? =some x/\idx P x=some v/\v.At=((q:Nat):Int)/\q<n/\wB W x=false/\idx g.Arena.Next x=some r/\(itM d n m k P g pk j).1.length<=256 /\
 stM d n m k P g pk (j+1)=((cV (fM pk P r n m q) (itM d n m k P g pk j).1 m).1,((j+1:Nat):Int),(itM d n m k P g pk j).2.1++[(cV (fM pk P r n m q) (itM d n m k P g pk j).1 m).2],(itM d n m k P g pk j).2.2++[(FK m).map (oM d pk P r n m k q)]):=by
 obtain⟨_,_,_,z,_,_⟩:=h.len
 have a:=mV h h0 j u
 have y:=a.nm.len
 have i:(itM d n m k P g pk j).1[j]? =some ((itM d n m k P g pk j).1[j]):=o7 f
 have t:(itM d n m k P g pk j).1.getD j 0=(itM d n m k P g pk j).1[j]:=by rw[o5,i];rfl
 have o:=List.getElem_mem f
 obtain⟨p,l⟩:=a.all _ o
 obtain⟨v,b,_,_⟩:=h.place (a.nm.2 _ o)
 have e:=eA b
 rw[e]at l
 obtain⟨q,r,s,w,hr,_⟩:=AJ h b l p
 refine⟨_,v,q,r,i,b,s,w,p,hr,by omega,?_⟩
 unfold stM
 rw[show itM d n m k P g pk (j+1)=((cV (fM pk P (rowI g.Arena ((itM d n m k P g pk j).1.getD j 0)) n m (atP P ((itM d n m k P g pk j).1.getD j 0)).toNat) (itM d n m k P g pk j).1 m).1,(itM d n m k P g pk j).2.1++[(cV (fM pk P (rowI g.Arena ((itM d n m k P g pk j).1.getD j 0)) n m (atP P ((itM d n m k P g pk j).1.getD j 0)).toNat) (itM d n m k P g pk j).1 m).2],(itM d n m k P g pk j).2.2++[(FK m).map (oM d pk P (rowI g.Arena ((itM d n m k P g pk j).1.getD j 0)) n m k (atP P ((itM d n m k P g pk j).1.getD j 0)).toNat)]) from rfl]
 rw[t,ey hr,e,show v.At.toNat=q by omega]
theorem CU {u:Type}{f:VI×Int×VV×VV->Option (u⊕((VI×Int×VV×VV)⊕(VI×Int×VV×VV)))}(l:∀a,(∀b,b<a->b<(itM d n m k P g pk b).1.length)->f (stM d n m k P g pk a)=some (if a<(itM d n m k P g pk a).1.length then .inr (.inr (stM d n m k P g pk (a+1))) else .inr (.inl (stM d n m k P g pk a)))):
 ∃a:Nat,(∀b,b<a->b<(itM d n m k P g pk b).1.length)/\a=(itM d n m k P g pk a).1.length/\bQ f (2 ^ 64) ([0],0,[],[])=some (.inr (stM d n m k P g pk a)):=by
 obtain⟨_,_,_,y,_,_⟩:=h.len
 obtain⟨r,s,t⟩:=cE (f:=f) (λa i=>i=stM d n m k P g pk a/\∀b,b<a->b<(itM d n m k P g pk b).1.length) (λ_=>False)
  (λi=>∃a:Nat,i=stM d n m k P g pk a/\(∀b,b<a->b<(itM d n m k P g pk b).1.length)/\a=(itM d n m k P g pk a).1.length) 256 (λa i ⟨e,c⟩=>by
  subst e
  have x:=(mV h h0 a c).nm.len
  by_cases j:a<(itM d n m k P g pk a).1.length
  .rw[l a c,if_pos j]
   refine⟨_,rfl,by omega,rfl,λb o=>?_⟩
   by_cases e:b=a
   .subst e;exact j
   .exact c b (by omega)
  .rw[l a c,if_neg j]
   refine⟨_,rfl,a,rfl,c,?_⟩
   cases a with
   |zero=>exact absurd (by show 0 < [(0:Int)].length;simp) j
   |succ a=>
    have v:=c a (by omega)
    have w:=AQ d n m k P g pk (show a<=a+1 by omega)
    omega) (2 ^ 64) 0 ([0],0,[],[]) (by omega) ⟨rfl,λb o=>absurd o (Fx b)⟩ (by omega)
 match r,t with
 |.inr i,⟨a,e,p,q⟩=>exact⟨a,p,q,by rw[s,e]⟩
end
section
variable {p:Sig}(hs:sigOk p=true){d:Det}(hd:detOk p d=true) (hpb:∀x∈d.Pairs,x.Ask.length<=1000000000/\x.Give.length<=1000000000){n m k:Nat}{A:Arena}{P:VL}{g:Parity}{W:Int->Prop}{pk wn:VI}(h:Cx d n m k A P g W pk) (hm:pw p.In=(m:Int)) (hk:pw p.Out=(k:Int)) (h0:wB W 0=false)
include h hs hd hpb hm hk h0
theorem CM:∃a:Nat,(∀b,b<a->b<(itM d n m k P g pk b).1.length)/\a=(itM d n m k P g pk a).1.length/\bQ (iz p (d,true) (g,P,true) ⟨wn,pk⟩) (2 ^ 64) ([0],0,[],[])=some (.inr (stM d n m k P g pk a)):=by
 have W:=h.m1
 have X:=h.m4
 have E:rng (m:Int)=some ():=by unfold rng;rw[if_pos (by omega)]
 have B:Int.toNat ((m:Int)-0)=m:=by omega
 refine CU h h0 λa s=>?_
 have e:=mV h h0 a s
 have Q:=e.nxl
 have T:=e.oul
 have U:=e.nm.len
 have V:=h.len.2.2.2.1
 unfold iz stM
 dsimp only
 by_cases j:a<(itM d n m k P g pk a).1.length
 .obtain⟨x,v,q,r,w,u,D,t,H,hr,hl,o⟩:=BQ h h0 s j
  obtain⟨I,ac,R,_,l,_,z,A⟩:=AJ h u (by omega) H
  have:q=I:=by omega
  subst this
  rw[hr]at l
  cases l
  have C:∀a:Nat,((FK a).map (oM d pk P r n m k q)).length=a:=λa=>by rw[Fh,FH]
  rw[if_pos j]
  unfold stM at o
  rw[o]
  generalize itM d n m k P g pk a=S at *
  obtain⟨F,Nx,Ou⟩:=S
  dsimp only at *
  have G:cntM (fJ p (d,true) (g,P,true) ⟨wn,pk⟩ (F,(a:Int),Nx,Ou) v) m 0 (F,[],[])=some (.inr ((cV (fM pk P r n m q) F m).1,(cV (fM pk P r n m q) F m).2,(FK m).map (oM d pk P r n m k q))):=by
   obtain⟨c,h1,h2⟩:=bR (f:=fJ p (d,true) (g,P,true) ⟨wn,pk⟩ (F,(a:Int),Nx,Ou) v) (λa c=>c=((cV (fM pk P r n m q) F a).1,(cV (fM pk P r n m q) F a).2,(FK a).map (oM d pk P r n m k q))) m (s:=(F,[],[])) rfl (λb c i y=>by
    subst y
    obtain⟨Z,aa,ab⟩:=pz (fM pk P r n m q) F b
    obtain⟨Y,ai,ah,K,L,ad,ae,M,N,af,ag,O,_⟩:=A b i
    unfold fJ
    dsimp only
    rw[bH,vg _ _ w,Fz,hr,Fz,h.dl,D,DR hs h hm z t i K,Fz,Fz,hr,Fz,bH,L,Fz,M,Fz,oH,Fz,rJ _ (by omega),Fz]
    dsimp only
    rw[app1 (by omega) rfl,Fz,N,Fz,CN hs hd hpb h hm hk t i,Fz,O,Fz,app1 (by rw[C];omega) rfl,Fz]
    exact⟨_,rfl,by rw[List.range_succ,EC];rfl⟩)
   rw[h1,h2]
  rw[decide_eq_true (show(a:Int)<(F.length:Int) by omega),cond_true,bH,w,Fz,u,Fz,dW hs,hm,Fz,E,Fz,B,G,Fz,bK]
  dsimp only
  rw[app1 (by omega) rfl,Fz,app1 (by omega) rfl,Fz,wr' (by omega) (by omega)]
  rfl
 .rw[decide_eq_false (by omega),cond_false,if_neg j]
end
structure Stq (p:Sig) (cs:VC) (d:Det) (n m k:Nat) (A:Arena) (P:VL) (g:Parity) (W:Int->Prop) (pk:VI):Prop where
 det:detOk p d=true
 im:pw p.In=(m:Int)
 ok:pw p.Out=(k:Int)
 cx:Cx d n m k A P g W pk
 prd:∃N:Nat,ltd p=N/\PR N cs d
theorem Cb {k:Nat}(hk:k<=2){n:Nat}{u v:Place}(d:VOk n k u) (e:VOk n k v) (h:u.At=v.At) (c:u.Record.headD 0=v.Record.headD 0):u=v:=by
 obtain⟨m,r⟩:=u
 obtain⟨s,l⟩:=v
 dsimp only at h c
 subst h
 have a:=d.rl
 have b:=e.rl
 have f:=d.rin
 have g:=e.rin
 have i:=d.nd
 have j:=e.nd
 dsimp only at a b f g i j
 congr 1
 match r,l with
 | [],[]=>rfl
 | [],_::_=>simp at a b;omega
 |_::_,[]=>simp at a b;omega
 | [x],[y]=>simp at c;rw[c]
 | [x],_::_::_=>simp at a b;omega
 |_::_::_,[y]=>simp at a b;omega
 | [x,x'],[y,y']=>
  simp at c i j
  have o:=f x (by simp)
  have p:=f x' (by simp)
  have q:=g y' (by simp)
  have:x'=y':=by omega
  rw[c,this]
 | [_,_],_::_::_::_=>simp at a b;omega
 |_::_::_::_,_=>simp at a;omega
theorem ud {k:Nat}(hk:k<=2){n c:Nat}{P:VL}(hn:P.Nodup) (a:∀v∈P,VOk n k v/\v.At<c):P.length<=2 * c:=by
 have h1:(P.map λv=>2 * v.At+v.Record.headD 0).Nodup:=by
  unfold List.Nodup
  rw[F3]
  refine List.Pairwise.imp_of_mem (λ{i v} l m j g=>j ?_) hn
  have e:=(a i l).1
  have f:=(a v m).1
  have hd:∀w:Place,VOk n k w->0<=w.Record.headD 0/\w.Record.headD 0<2:=λw o=>by
   have b:=o.rin
   cases hr:w.Record with
   |nil=>simp
   |cons x r=>
    have:=b x (by rw[hr];simp)
    simp
    omega
  have t:=hd i e
  have u:=hd v f
  exact Cb hk e f (by omega) (by omega)
 have:=cZ (2 * c) _ h1 λx p=>by
  obtain⟨v,hm,g⟩:=EE.1 p
  obtain⟨d,s⟩:=a v hm
  have:=d.a0
  have b:=d.rin
  subst g
  cases hr:v.Record with
  |nil=>simp;omega
  |cons q r=>
   have:=b q (by rw[hr];simp)
   simp
   omega
 rwa [Fh]at this
theorem xA {d:Det}{n m k:Nat}{A:Arena}{P:VL}{g:Parity}{W:Int->Prop}{pk:VI}(h:Cx d n m k A P g W pk) (hn:n<=16) (hk:d.Pairs.length<=2){F:VI}(j:Names P.length F) (ha:∀x∈F,atP P x<(n:Int)):F.length<=32:=by
 have i:∀x∈F,∃v,P[x.toNat]? =some v/\idx P x=some v/\0<=x:=λx a=>by
  obtain⟨h0,h1⟩:=j.2 x a
  obtain⟨v,f,_⟩:=eB (xs:=P) h0 h1
  exact⟨v,by rw[← cB h0];exact f,f,h0⟩
 have h1:(F.map λx=>P.getD x.toNat ⟨0,[]⟩).Nodup:=by
  unfold List.Nodup
  rw[F3]
  refine List.Pairwise.imp_of_mem (λ{x u} a s r b=>r ?_) j.1
  obtain⟨l,e,_,z⟩:=i x a
  obtain⟨v,o,_,B⟩:=i u s
  rw[o5,o5,e,o,F6,F6]at b
  subst b
  obtain⟨w,p⟩:=DX.1 e
  obtain⟨y,q⟩:=DX.1 o
  have:=(List.getElem_inj h.rg.game.nod).1 (p.trans q.symm)
  omega
 have:=ud hk (c:=n) h1 λv f=>by
  obtain⟨x,a,b⟩:=EE.1 f
  obtain⟨l,e,t,_⟩:=i x a
  rw[o5,e,F6]at b
  subst b
  have:=ha x a
  rw[eA t]at this
  exact⟨h.rg.game.inn l (EF e),this⟩
 rw[Fh]at this
 omega
def mst (c:Clause) (q x:Int):Int:=monNext c.Kind q (decide (x∈c.A)) (decide (x∈c.B))
theorem Bs {a n:Nat}{f:Int->Int->Int}{q x:Int}(b:0<=q) (d:q<a) (c:0<=x) (e:x<n):tab ((numsN a).map λq=>(numsN n).map λx=>f q x) q x=f q x:=by
 obtain⟨q,rfl⟩:=dy b
 obtain⟨x,rfl⟩:=dy c
 unfold tab numsN
 rw[Fb,Fb]
 simp[o5,F2 (show q<a by omega),F2 (show x<n by omega)]
theorem B2 {c:Clause}{n:Nat}{q x:Int}(a:0<=q) (b:q<monStates c.Kind) (d:0<=x) (e:x<n):tab (monD c n).Next q x=mst c q x:=
 Bs (f:=λq x=>mst c q x) a b d e
structure Sm (n:Nat) (D:Det) (c:Clause) (i:Nat) (π:Int->Int):Prop where
 zero:π 0=0
 rng:∀r:Int,0<=r->r<D.Next.length->0<=π r/\π r<monStates c.Kind
 step:∀r x:Int,0<=r->r<D.Next.length->0<=x->x<n->π (tab D.Next r x)=mst c (π r) x
 pair:∃pr,D.Pairs[i]? =some pr/\∀r:Int,0<=r->r<D.Next.length->((r∈pr.Ask↔π r∈(monPair c.Kind).Ask)/\(r∈pr.Give↔π r∈(monPair c.Kind).Give))
def keyAt (K:List Key) (r:Int):Key:=(K[r.toNat]?).getD (0,0)
theorem pu {K:List Key}{r:Int}(a:0<=r) (b:r<K.length):K[r.toNat]? =some (keyAt K r):=by
 have h:K[r.toNat]? =some (K[r.toNat]'(by omega)):=o7 (by omega)
 unfold keyAt
 rw[h];rfl
theorem rK {part:Key->Int}{K:List Key}{S:VI}{r:Int}(d:0<=r) (e:r<K.length):r∈plK part K S K.length↔part (keyAt K r)∈S:=by
 rw[sP]
 have hk:=pu d e
 constructor
 .rintro⟨c,h1,h2,v,a,b⟩
  have:r.toNat=c:=by omega
  rw[this,a]at hk
  cases hk
  exact b
 .intro h
  exact⟨r.toNat,by omega,by omega,_,hk,h⟩
theorem yi {b:Key->Int->Key}{k:Nat}{K:List Key}{R:VV}(h:Prod b k K K.length R){r x:Int}(i:0<=r) (j:r<K.length) (m:0<=x) (t:x<k):0<=tab R r x/\tab R r x<K.length/\keyAt K (tab R r x)=b (keyAt K r) x:=by
 have q:=h.rl
 have hr:R[r.toNat]? =some (R[r.toNat]'(by omega)):=o7 (by omega)
 obtain⟨_,v,d,e⟩:=h.row _ _ hr
 obtain⟨x,rfl⟩:=dy m
 obtain⟨n,o,p,c⟩:=e x (by omega)
 have a:=pu i j
 rw[d]at a
 have g:v=keyAt K r:=EU a
 have f:tab R r (x:Int)=n:=by
  unfold tab
  rw[o5 (l:=R),hr,F6,o5,Fb,o,F6]
 have s:=(DX.1 c).1
 rw[f]
 refine⟨p,by omega,?_⟩
 rw[← g]
 unfold keyAt
 rw[c];rfl
theorem PR.len {n:Nat}{cs:VC}{D:Det}(h:PR n cs D):D.Pairs.length=cs.length:=by
 induction h with
 |nil=>rfl
 | @snoc cs c D b R d k a=>
  show(D.Pairs.map _++[_]).length=_
  rw[DZ,Fh,DZ,a];rfl
theorem PR.sm {p:Sig}{n:Nat}(hn:ltd p=n):∀{cs:VC}{D:Det},PR n cs D->(∀c∈cs,cz p c=true)->∀(i:Nat) c,cs[i]? =some c->∃π,Sm n D c i π:=λ{cs D} h=>by
 induction h with
 |nil=>intro _ i c g;simp at g
 | @snoc cs j D a R I k K=>
  intro H i c g
  have l:(jD D (monD j n) a R).Next=R:=rfl
  have O:R.length=a.length:=k.prod.rl
  have v:(jD D (monD j n) a R).Pairs=D.Pairs.map (plP (·.1) a)++(monD j n).Pairs.map (plP (·.2) a):=rfl
  have E:D.Pairs.length=cs.length:=I.len
  have z:keyAt a 0=(0,0):=by
   unfold keyAt
   rw[show(0:Int).toNat=0 from rfl,k.prod.zero];rfl
  have m:∀r:Int,0<=r->r<R.length->0<=(keyAt a r).1/\(keyAt a r).1<D.Next.length/\0<=(keyAt a r).2/\(keyAt a r).2<(monD j n).Next.length:=λr b d=>
   k.kin _ (EF (pu b (by omega)))
  have y:(monD j n).Next.length=monStates j.Kind:=by
   show((numsN _).map _).length=_
   rw[Fh,ir]
  by_cases G:i<cs.length
  .rw[Es G]at g
   obtain⟨π,t⟩:=K (λc g=>H c (List.mem_append_left _ g)) i c g
   refine⟨λr=>π (keyAt a r).1,⟨by show π (keyAt a 0).1=0;rw[z];exact t.zero,λr b d=>?_,λr x b d q s=>?_,?_⟩⟩
   .obtain⟨f,e,_,_⟩:=m r b d
    exact t.rng _ f e
   .obtain⟨f,e,_,_⟩:=m r b d
    have u:=(yi k.prod b (by rw[l]at d;omega) q s).2.2
    rw[l]
    show π (keyAt a (tab R r x)).1=_
    rw[u]
    exact t.step _ x f e q s
   .obtain⟨N,L,M⟩:=t.pair
    refine⟨plP (·.1) a N,?_,λr b d=>?_⟩
    .rw[v,Es (by rw[Fh];omega),Ex,L];rfl
    .obtain⟨f,e,_,_⟩:=m r b d
     have o:r<a.length:=by rw[l]at d;omega
     obtain⟨A,B⟩:=M _ f e
     exact⟨(rK b o).trans A,(rK b o).trans B⟩
  .have w:=(DX.1 g).1
   rw[DZ]at w
   simp only[List.length_cons,List.length_nil]at w
   have C:i=cs.length:=by omega
   subst C
   have F:c=j:=by simp at g;exact g.symm
   subst F
   refine⟨λr=>(keyAt a r).2,⟨by show(keyAt a 0).2=0;rw[z],λr b d=>?_,λr x b d q s=>?_,?_⟩⟩
   .obtain⟨_,_,f,e⟩:=m r b d
    rw[y]at e
    exact⟨f,e⟩
   .obtain⟨_,_,f,e⟩:=m r b d
    rw[y]at e
    have u:=(yi k.prod b (by rw[l]at d;omega) q s).2.2
    rw[l]
    show(keyAt a (tab R r x)).2=_
    rw[u]
    exact B2 f e q s
   .refine⟨plP (·.2) a (monPair c.Kind),?_,λr b d=>?_⟩
    .rw[v,Et (by rw[Fh];omega),Fh,E,Nat.sub_self];rfl
    .have o:r<a.length:=by rw[l]at d;omega
     exact⟨rK b o,rK b o⟩
theorem Stp3.q {p:Sig}{cs:VC}{d:Det}{n m k:Nat}{A:Arena}{P:VL}{g:Parity}{W:Int->Prop}{pk:VI}(S2:Stp2 p cs d A) (S:Stp3 p cs d n m k A P g W pk):Stq p cs d n m k A P g W pk:=⟨S.det,S.im,S.ok,S.cx,S2.prd⟩
theorem small {p:Sig}(hs:sigOk p=true){cs:VC}(l:∀c∈cs,Clause.bd c) (o:∀c∈cs,cz p c=true) (h2:cs.length<=2):∃d A n m k P g W pk,di p cs=some (d,true)/\c8 p cs=some (d,true)/\Stp2 p cs d A/\Stp3 p cs d n m k A P g W pk/\n<=16/\d.Pairs.length<=2:=by
 have q:fu p cs=true:=by
  unfold fu
  rw[decide_eq_true (by omega),Fc.2 o];rfl
 rcases setup p l with ⟨_,_,i⟩|⟨d,A,h1,f,S2,j⟩
 .have:=i hs q
  omega
 .obtain⟨N,t,a⟩:=S2.prd
  have z:=a.size
  have x:=a.len
  have s:4 ^ cs.length<=4 ^ 2:=Nat.pow_le_pow_right (by omega) h2
  obtain⟨m,hm,u⟩:=S2.al
  have y:=eu p.In
  have w:d.Next.length * m<=16 * 4:=FW (by omega) (by omega)
  rcases j with ⟨_,_,P,B,r,e⟩|⟨n,m,k,P,g,W,pk,S⟩
  .have:=ud (k:=d.Pairs.length) (by omega) (c:=A.Owner.length) r λv b=>⟨e v b,(e v b).a1⟩
   omega
  .refine⟨d,A,n,m,k,P,g,W,pk,h1,f,S2,S,?_,by omega⟩
   have:=S.cx.dl
   omega
theorem Bj {n:Nat}(h:n<=256):nL (n:Int)=some (firstR n):=by
 unfold nL
 obtain⟨e,g,i⟩:=cE (f:=jn (n:Int)) (λa (b:VI×Int)=>b=(firstR a,(a:Int))/\a<=n) (λ_=>False) (λb=>b.1=firstR n) n (λa b ⟨c,j⟩=>by
  subst c
  unfold jn
  dsimp only
  by_cases d:a<n
  .rw[decide_eq_true (show(a:Int)<(n:Int) by omega),cond_true,decide_eq_true (show(n:Int)<=256 by omega),Fz,cond_true,app1 (by unfold firstR;rw[Fh,FH];omega) rfl,Fz,wr' (by omega) (by omega)]
   exact⟨_,rfl,d,by unfold firstR;rw[List.range_succ,EC];rfl,by omega⟩
  .have:a=n:=by omega
   subst this
   rw[decide_eq_false (show ¬((a:Nat):Int)<(a:Int) by omega),cond_false,Fz,cond_false]
   exact⟨_,rfl,rfl⟩) (2 ^ 64) 0 ([],0) (by omega) ⟨rfl,Nat.zero_le _⟩ (by omega)
 match e,i with
 |.inr b,c=>rw[g,Fz,bK,c]
theorem pj {n i:Nat}(h:i<n):(firstR n)[i]? =some (i:Int):=by
 unfold firstR
 rw[Ex,F2 h];rfl
theorem A4 {n:Nat}(h:n<=256):rq (n:Int) (firstR n)=some (EH n true):=by
 unfold rq
 have hl:(firstR n).length=n:=by unfold firstR;rw[Fh,FH]
 rw[de (by omega) rfl,Fz,hl]
 obtain⟨b,h1,h2,j⟩:=bR (f:=ms (firstR n)) (λd (b:VB)=>b.length=n/\∀a:Nat,a<d->b[a]? =some true) n (s:=EH n false) ⟨by simp,λa c=>absurd c (Fx a)⟩ (λd b k ⟨e,g⟩=>by
  have l:b[d]? =some (b[d]'(by omega)):=o7 (by omega)
  unfold ms
  rw[bH,pj k,Fz,bH,l,Fz,yf (by omega),Fz]
  refine⟨_,rfl,by rw[List.length_set];exact e,λa c=>?_⟩
  by_cases i:a=d
  .subst i
   exact List.getElem?_set_self (by omega)
  .rw[List.getElem?_set_ne (by omega)]
   exact g a (by omega))
 rw[h1,Fz,bK]
 congr 1
 apply List.ext_getElem?
 intro a
 rw[FF]
 by_cases c:a<n
 .rw[if_pos c];exact j a c
 .rw[if_neg c];exact FE (by omega)
theorem ym {g:Parity}(q:cT g=true){W:Int->Prop}(o:g8 g=some (wonL g.Prio.length W)):∃y V,rh g=some (firstR g.Prio.length)/\sT g (firstR g.Prio.length)=some (y,V)/\ee y 0=some (!(wB W 0)):=by
 have h:=GOk.of q
 have hn:=h.n256
 obtain⟨h1,h2,j,ag,H⟩:=dY q
 have ah:1<=g.Prio.length:=by omega
 have hl:(firstR g.Prio.length).length=g.Prio.length:=by unfold firstR;rw[Fh,FH]
 obtain⟨P,D,X⟩:=wI h
 have M:rh g=some (firstR g.Prio.length):=by
  unfold rh
  rw[Bj hn];rfl
 -- the set of the winner
 have K:=nH h (pC q)
 have Q:=zj h P
 have I:In (EH g.Prio.length true)=λv:Int=>0<=v/\v<g.Prio.length:=funext λv=>propext (yo v)
 have C:=h.wfS X (k:=EH g.Prio.length (-1)) (by simp)
 obtain⟨R,F,aj,_⟩:=Bo C h.pri g.Prio.length (EH g.Prio.length true) (2 ^ 64) (by simp) (by rw[I,Q];exact K) (by have:=jg (EH g.Prio.length true);simp at this;exact this) (by omega)
 have L:wonL g.Prio.length W=R.map λe=>b2i (!e):=by
  unfold g8 at o
  rw[D,Fz,AB h,Fz,F,Fz]at o
  obtain⟨i,k1,U⟩:=bR (f:=jw R) (λc i=>i=(R.take c).map λe=>b2i (!e)) R.length (s:=[]) rfl (λc i t a=>by
   subst a
   have d:R[c]? =some R[c]:=o7 t
   generalize R[c]=e at d
   have O:gp e=some (b2i e):=by cases e <;> rfl
   unfold jw
   rw[bH,d,Fz,O,Fz,pi,app1 (by rw[Fh,EB];omega) rfl]
   exact⟨_,rfl,by rw[List.take_add_one,d,EC];rfl⟩)
  rw[k1,U,Fz,bK,List.take_length]at o
  exact(EU o).symm
 have z:R[0]? =some (!(wB W 0)):=by
  have a:=lF (W:=W) (n:=g.Prio.length) (v:=0) ⟨Int.le_refl _,by omega⟩
  have d:R[0]? =some (R[0]'(by omega)):=o7 (by omega)
  rw[L,show(0:Int)=((0:Nat):Int) from rfl,bH,Ex,d]at a
  rw[d]
  generalize R[0]'(by omega)=e at a
  have a:=EU a
  revert a
  show b2i (!e)=b2i (wB W 0)->_
  cases e <;> cases wB W 0 <;> first | (intro _;rfl) | (intro a;exact absurd a (by decide))
 have T:jO (firstR g.Prio.length) (g.Prio.length:Int)=some true:=by
  unfold jO
  rw[dA,lA (by omega) (by omega) (by omega),fB.2 ⟨λx d=>by
   obtain⟨b,s⟩:=Ff d
   have p:=(DX.1 s).1
   rw[pj (by omega)]at s
   cases s
   omega,by
   unfold firstR
   refine F3.2 (List.Pairwise.imp (λ{G e} ai=>?_) List.pairwise_lt_range)
   show(G:Int)<(e:Int)
   omega⟩,decide_eq_true (show(0:Int)<=(g.Prio.length:Int) by omega),decide_eq_true (show(g.Prio.length:Int)<=256 by omega)]
  rfl
 have N:∀v:Nat,v<g.Prio.length->∃l,jt ⟨g.Arena.Owner,g.Prio,g.Arena.Next,P,EH g.Prio.length (-1)⟩ (EH g.Prio.length true) (v:Int)=some l/\(l==0)=false:=λv m=>by
  have hd:=xT C (B:=EH g.Prio.length true) (by simp) (v:=(v:Int)) (by omega) (by omega)
  refine⟨_,hd,?_⟩
  have hr:g.Arena.Next[v]? =some (g.Arena.Next[v]'(by omega)):=o7 (by omega)
  obtain⟨Y,_,E⟩:=H v _ hr
  generalize g.Arena.Next[v]'(by omega)=row at hr Y E
  have S:rowS (⟨g.Arena.Owner,g.Prio,g.Arena.Next,P,EH g.Prio.length (-1)⟩:l7Game) (v:Int)=row.filter (okE (-1)):=sQ (by rw[bH];exact hr) (by rw[bH,FF,if_pos m])
  rw[beq_eq_false_iff_ne]
  intro a
  have w:lf (rowS (⟨g.Arena.Owner,g.Prio,g.Arena.Next,P,EH g.Prio.length (-1)⟩:l7Game) (v:Int)) (In (EH g.Prio.length true)) (λ_=>False)=0:=by omega
  rw[vL,S]at w
  have d:row[0]? =some (row[0]'(by omega)):=o7 (by omega)
  have hm:=EF d
  obtain⟨Z,ak⟩:=(fB.1 E).1 _ hm
  exact w _ (Fk.2 ⟨hm,rfl⟩) ((yo _).2 ⟨Z,by omega⟩)
 obtain⟨i,aa,al,am,ab⟩:=bR (f:=nV (firstR g.Prio.length) R) (λc (i:VI×VI)=>i.1.length<=c/\i.2.length<=c/\∀l,l∈i.1↔∃b:Nat,b<c/\l=(b:Int)/\R[b]? =some true) g.Prio.length (s:=([],[])) ⟨by simp,by simp,λl=>by simp⟩ (λc i t ⟨ae,af,u⟩=>by
  have d:R[c]? =some (R[c]'(by omega)):=o7 (by omega)
  generalize R[c]'(by omega)=e at d
  unfold nV
  rw[bH,pj t,Fz,bH,d,Fz]
  cases e with
  |true=>
   rw[cond_true,Fz,app1 (by omega) rfl]
   refine⟨_,rfl,by dsimp only;rw[DZ];simp;omega,by dsimp only;omega,λl=>?_⟩
   dsimp only
   rw[D2,D4,u]
   constructor
   .rintro(⟨b,h1,h2⟩|a)
    .exact⟨b,by omega,h2⟩
    .exact⟨c,by omega,a,d⟩
   .rintro⟨b,h1,h2,j⟩
    by_cases a:b=c
    .subst a;exact .inr h2
    .exact .inl ⟨b,by omega,h2,j⟩
  |false=>
   rw[cond_false,Fz,app1 (by omega) rfl]
   refine⟨_,rfl,by dsimp only;omega,by dsimp only;rw[DZ];simp;omega,λl=>?_⟩
   dsimp only
   rw[u]
   constructor
   .rintro⟨b,h1,h2⟩
    exact⟨b,by omega,h2⟩
   .rintro⟨b,h1,h2,j⟩
    by_cases a:b=c
    .subst a;rw[d]at j;cases j
    .exact⟨b,by omega,h2,j⟩)
 refine⟨i.1,i.2,M,?_,?_⟩
 .unfold sT
  rw[mI,q,Fz,E5,cond_false,T,Fz,Fz,E5,cond_false,D,Fz,A4 hn,Fz]
  rw[cX (f:=nU (firstR g.Prio.length) ⟨g.Arena.Owner,g.Prio,g.Arena.Next,P,EH g.Prio.length (-1)⟩ (EH g.Prio.length true)) (r:=([],[])) (λ_=>true) (xs:=firstR g.Prio.length) rfl (λb v m=>by
   have p:=(DX.1 m).1
   rw[hl]at p
   have A:=m
   rw[pj p]at A
   cases A
   obtain⟨l,ac,ad⟩:=N b p
   unfold nU
   rw[bH,m,Fz,ac,Fz,ad];rfl)]
  rw[show((firstR g.Prio.length).all λ_=>true)=true from by simp,if_pos rfl,Fz,bK,F,Fz,hl,aa,Fz,bK]
 .rw[qh]
  congr 1
  rw[Bool.eq_iff_iff,decide_eq_true_eq,ab]
  constructor
  .rintro⟨b,h1,h2,j⟩
   have:b=0:=by omega
   subst this
   rw[z]at j
   exact EU j
  .intro a
   exact⟨0,by omega,rfl,by rw[z,a]⟩
section
variable {p:Sig}{cs:VC}{d:Det}{A:Arena}(h1:di p cs=some (d,true)) (h2:c8 p cs=some (d,true)) (S2:Stp2 p cs d A)
include h1 S2
omit h2
theorem DA:gT p cs=EO (oZ p d 0) λx=>some (x==0):=by
 unfold gT nN
 rw[h1,Fz,cond_true,mb S2.sig S2.pb,S2.det,Fz,E5,cond_false]
 cases oZ p d 0 <;> rfl
omit h1
include h2
theorem CT:gM p cs=EO (d8 A d.Pairs 0) λa=>bif (!a.2.2) then some false else EO (eJ a.1) λc=>EO (idx c 0) λe=>some (e==0):=by
 have b:lO A 0=some true:=by
  unfold lO oG
  have:=S2.a1
  rw[decide_eq_true (Int.le_refl 0),cond_true,Fz,decide_eq_true (by omega)];rfl
 unfold gM nk mB oG
 rw[h2,Fz,cond_true,jk,S2.sig,Fz,E5,cond_false,rY S2.sig S2.pb,S2.det,S2.iC]
 simp only[qw,S2.aok,Fz,E5,cond_false,oy S2.pb,S2.pok,b]
 cases d8 A d.Pairs 0 with
 |none=>rfl
 |some x=>
  simp only[Fz]
  cases !x.2.2 with
  |true=>rfl
  |false=>
   simp only[cond_false]
   cases eJ x.1 with
   |none=>rfl
   |some f=>
    simp only[Fz]
    cases idx f 0 <;> rfl
end
section
variable {p:Sig}{cs:VC}{d:Det}{n m k:Nat}{A:Arena}{P:VL}{g:Parity}{W:Int->Prop}{pk:VI}(S2:Stp2 p cs d A) (S:Stp3 p cs d n m k A P g W pk)
include S2 S
theorem y5 (h1:di p cs=some (d,true)):gT p cs=some (!(wB W 0)):=by
 obtain⟨e,f,a,b,c⟩:=ym S.cx.ok S.sW
 rw[DA h1 S2]
 unfold oZ
 rw[S2.sC,Fz,S.sR,Fz]
 simp only[Fz,E5,cond_false,a,b,c]
 cases wB W 0 <;> rfl
theorem yD (h2:c8 p cs=some (d,true)):gM p cs=some (!(wB W 0)):=by
 rw[CT h2 S2,S.iR,Fz]
 simp only[E5,cond_false,S.iW,S.won,Fz]
 cases wB W 0 <;> rfl
end
def Sat (c:Clause) (L:Nat->Int):Prop:=
 if c.Kind=1 then ∀t,L t∈c.A
 else if c.Kind=2 then ∀t,L t∈c.A->L (t+1)∈c.B
 else if c.Kind=3 then ∀t,L t∈c.A->∃a,t<=a/\L a∈c.B
 else if c.Kind=4 then F7 λt=>L t∈c.A
 else if c.Kind=5 then ¬F7 λt=>L t∉c.A
 else if c.Kind=6 then ∃t,L t∈c.A
 else(F7 λt=>L t∈c.A)->F7 λt=>L t∈c.B
def mrun (c:Clause) (L:Nat->Int):Nat->Int
 |0=>0
 |t+1=>mst c (mrun c L t) (L t)
def Well (A G:VI) (s:Nat->Int):Prop:=(F7 λt=>s t∈A)->F7 λt=>s t∈G
theorem BP {S:Nat->Prop}:(F7 λt=>S (t+1))↔F7 S:=⟨λh N=>by
 obtain⟨m,h1,h2⟩:=h N
 exact⟨m+1,by omega,h2⟩,λh N=>by
 obtain⟨m,h1,h2⟩:=h (N+1)
 exact⟨m-1,by omega,by show S (m-1+1);rwa [show m-1+1=m by omega]⟩⟩
theorem iL {S T:Nat->Prop}(h:∀t,S t↔T t):F7 S↔F7 T:=by
 rw[show S=T from funext λt=>propext (h t)]
theorem qJ {S T:Nat->Prop}(h:∀t,S (t+1)↔T t):F7 S↔F7 T:=BP.symm.trans (iL h)
theorem tZ {s E:Nat->Prop}(h0:¬s 0) (h:∀t,s (t+1)↔s t\/E t):(F7 s↔∃t,E t)/\((F7 λt=>¬s t)↔∀t,¬E t)/\∀t,s t->∃a,E a:=by
 have f:∀t,s t↔∃a,a<t/\E a:=λt=>by
  induction t with
  |zero=>exact⟨λhs=>absurd hs h0,λ⟨a,c,_⟩=>absurd c (Fx a)⟩
  |succ t i=>
   rw[h,i]
   constructor
   .rintro(⟨a,h1,h2⟩|h2)
    .exact⟨a,by omega,h2⟩
    .exact⟨t,by omega,h2⟩
   .rintro⟨a,h1,h2⟩
    by_cases g:a=t
    .subst g;exact .inr h2
    .exact .inl ⟨a,by omega,h2⟩
 have d:∀t,s t->∃a,E a:=λt b=>((f t).1 b).elim λa c=>⟨a,c.2⟩
 refine⟨⟨λe=>?_,λ⟨t,b⟩ N=>⟨max N (t+1),by omega,(f _).2 ⟨t,by omega,b⟩⟩⟩,⟨λe t b=>?_,λhn N=>⟨N,Ec _,λhs=>?_⟩⟩,d⟩
 .obtain⟨m,_,hm⟩:=e 0
  exact d m hm
 .obtain⟨m,h1,h2⟩:=e (t+1)
  exact h2 ((f m).2 ⟨t,by omega,b⟩)
 .obtain⟨a,c⟩:=d N hs
  exact hn a c
section
variable {c:Clause}{L:Nat->Int}(k1:1<=c.Kind) (k7:c.Kind<=7)
include k1 k7
theorem vP:∀t,0<=mrun c L t/\mrun c L t<monStates c.Kind
 |0=>by
  show(0:Int)<=0/\(0:Int)<_
  unfold monStates
  (repeat' split) <;> omega
 |t+1=>tV k1 k7 (vP t).1 (vP t).2 _ _
theorem Ct:Sat c L↔Well (monPair c.Kind).Ask (monPair c.Kind).Give (mrun c L):=by
 have f:=vP (L:=L) k1 k7
 have d:∀t,mrun c L (t+1)=monNext c.Kind (mrun c L t) (decide (L t∈c.A)) (decide (L t∈c.B)):=λt=>rfl
 have h0:mrun c L 0=0:=rfl
 generalize mrun c L=s at *
 have F:¬F7 λt=>s t∈([]:VI):=λh=>by
  obtain⟨m,_,hm⟩:=h 0
  cases hm
 have nw:∀A,Well A [] s↔¬F7 λt=>s t∈A:=λA=>⟨λh g=>F (h g),λh g=>absurd g h⟩
 have j:∀q:Int,(F7 λt=>s t∈[q])↔F7 λt=>s t=q:=λq=>iL λt=>D4
 unfold Sat
 rcases kinds k1 k7 with k|k|k|k|k|k|k <;> rw[k]at f d ⊢ <;> simp only[monNext,monStates,b01,mx]at f d <;> simp(config:={ decide:=true }) only[if_true,if_false]at f d ⊢
 .show _↔Well [1] [] s
  have n:=tZ (s:=λt=>s t=1) (E:=λt=>L t∉c.A) (by simp[h0]) (λt=>by
   rw[d]
   rcases(show s t=0\/s t=1 by have:=f t;omega) with a|a <;> by_cases h:L t∈c.A <;> simp[a,h])
  rw[nw,j,n.1]
  exact⟨λh ⟨t,i⟩=>i (h t),λh t=>E8 λhn=>h ⟨t,hn⟩⟩
 .show _↔Well [2] [] s
  have n:=tZ (s:=λt=>s t=2) (E:=λt=>s t=1/\L t∉c.B) (by simp[h0]) (λt=>by
   rw[d]
   by_cases e:L t∈c.B <;> by_cases a:s t=2 <;> by_cases l:s t=1 <;> by_cases ha:L t∈c.A <;> simp_all)
  rw[nw,j,n.1]
  refine⟨λh ⟨t,h1,h2⟩=>?_,λh t ha=>E8 λhn=>h ?_⟩
  .cases t with
   |zero=>rw[h0]at h1;cases h1
   |succ t=>
    refine h2 (h t ?_)
    rw[d]at h1
    by_cases ha:L t∈c.A
    .exact ha
    .exfalso
     simp only[ha,decide_false]at h1
     split at h1 <;> simp at h1
  .by_cases a:s (t+1)=2
   .exact n.2.2 _ a
   .refine⟨t+1,?_,hn⟩
    rw[d]at a ⊢
    split at a
    .exact absurd rfl a
    .rename_i z
     rw[if_neg z,decide_eq_true ha];rfl
 .show _↔Well [1] [0] s
  unfold Well
  rw[j,j]
  constructor
  .intro h H N
   apply E8
   intro hn
   have h1:∀t,N<=t->s t=1:=λt i=>by
    have:=f t
    have:¬s t=0:=λa=>hn ⟨t,i,a⟩
    omega
   -- from when on it waits
   have D:∀t,s t=1->∃b,b<t/\L b∈c.A/\∀v,b<=v->v<t->L v∉c.B:=λt=>by
    induction t with
    |zero=>intro a;rw[h0]at a;cases a
    |succ t r=>
     intro a
     rw[d]at a
     by_cases e:L t∈c.B
     .simp[e]at a
     .by_cases l:s t=1
      .obtain⟨b,G,u,w⟩:=r l
       exact⟨b,by omega,u,λv o p=>by
        by_cases y:v=t
        .subst y;exact e
        .exact w v o (by omega)⟩
      .by_cases ha:L t∈c.A
       .exact⟨t,by omega,ha,λv o p=>by rw[show v=t by omega];exact e⟩
       .exfalso
        have:=f t
        have:s t=0:=by omega
        simp[e,ha,this]at a
   obtain⟨b,G,u,w⟩:=D N (h1 N (Ec _))
   obtain⟨v,o,p⟩:=h b u
   by_cases C:v<N
   .exact w v o C p
   .have:=h1 (v+1) (by omega)
    rw[d]at this
    simp[p]at this
  .intro h t ha
   apply E8
   intro hn
   have h1:∀b,t<b->s b=1:=λb=>by
    induction b with
    |zero=>intro B;omega
    |succ b r=>
     intro B
     have e:L b∉c.B:=λe=>hn ⟨b,by omega,e⟩
     rw[d]
     by_cases a:t=b
     .subst a
      have:=f t
      by_cases l:s t=1
      .simp[e,ha,l]
      .have:s t=0:=by omega
       simp[e,ha,this]
     .have l:=r (by omega)
      by_cases ha:L b∈c.A <;> simp[e,ha,l]
   obtain⟨m,I,x⟩:=h (λN=>⟨max N (t+1),by omega,h1 _ (by omega)⟩) (t+1)
   rw[h1 m (by omega)]at x
   cases x
 .show _↔Well [0,1] [1] s
  unfold Well
  rw[j,qJ (S:=λt=>s t=1) (T:=λt=>L t∈c.A) (λt=>by rw[d];by_cases h:L t∈c.A <;> simp[h])]
  exact⟨λh _=>h,λh=>h λN=>⟨N,Ec _,by have:=f N;simp;omega⟩⟩
 .show _↔Well [1] [] s
  rw[nw,j,qJ (S:=λt=>s t=1) (T:=λt=>L t∉c.A) (λt=>by rw[d];by_cases h:L t∈c.A <;> simp[h])]
 .show _↔Well [0] [] s
  have n:=tZ (s:=λt=>s t=1) (E:=λt=>L t∈c.A) (by simp[h0]) (λt=>by
   rw[d]
   rcases(show s t=0\/s t=1 by have:=f t;omega) with a|a <;> by_cases h:L t∈c.A <;> simp[a,h])
  rw[nw,j,iL (S:=λt=>s t=0) (T:=λt=>¬s t=1) (λt=>by have:=f t;omega),n.2.1]
  exact⟨λ⟨t,i⟩ h=>h t i,λh=>E8 λhn=>h λt i=>hn ⟨t,i⟩⟩
 .show _↔Well [2,3] [1,3] s
  unfold Well
  rw[qJ (S:=λt=>s t∈[2,3]) (T:=λt=>L t∈c.A) (λt=>by rw[d];by_cases h:L t∈c.A <;> by_cases g:L t∈c.B <;> simp[h,g]),
   qJ (S:=λt=>s t∈[1,3]) (T:=λt=>L t∈c.B) (λt=>by rw[d];by_cases h:L t∈c.A <;> by_cases g:L t∈c.B <;> simp[h,g])]
end
def wordOk (w:Word) (n:Int):Bool:=decide ((w.Stem.length:Int)<=600)&&decide (1<=(w.Loop.length:Int))&&decide ((w.Loop.length:Int)<=600)&&w.Stem.all (inR n)&&w.Loop.all (inR n)
theorem si {w:Word}{n:Int}(h:wordOk w n=true):w.Stem.length<=600/\1<=w.Loop.length/\w.Loop.length<=600/\w.Stem.all (inR n)=true/\w.Loop.all (inR n)=true:=by
 simp only[wordOk,C8,decide_eq_true_eq]at h
 obtain⟨⟨⟨⟨h1,h2⟩,c⟩,a⟩,b⟩:=h
 exact⟨by omega,by omega,by omega,a,b⟩
theorem re (w:Word){n:Int}(h0: -1000000000000000000<=n) (h1:n<=1000000000000000000):pK w n=some (wordOk w n):=by
 unfold pK wordOk
 simp only[orE,Fz,jT _ h0 h1,andE,qb]
 have:decide (1<=(w.Loop.length:Int))= !((w.Loop.length:Int)==0):=by
  by_cases h:(w.Loop.length:Int)=0
  .simp[h]
  .have h1:1<=(w.Loop.length:Int):=by omega
   have h2:((w.Loop.length:Int)==0)=false:=by rw[beq_eq_false_iff_ne];exact h
   rw[h2,decide_eq_true h1];rfl
 rw[this]
 generalize decide ((w.Stem.length:Int)<=600)=b1
 generalize w.Stem.all (inR n)=b2
 generalize decide ((w.Loop.length:Int)<=600)=b3
 generalize w.Loop.all (inR n)=b4
 generalize((w.Loop.length:Int)==0)=b5
 cases b1 <;> cases b2 <;> cases b3 <;> cases b4 <;> cases b5 <;> rfl
theorem lz (row:VI) (v:Int):ee row v=some (decide (v∈row)):=by
 unfold ee
 rw[cX (f:=jq row v) (r:=true) (λx=> !(v==x)) (xs:=row) rfl (λc a b=>by
  unfold jq
  rw[bH,b,Fz,show(a==v)=(v==a) from BEq.comm]
  cases v==a <;> rfl),← zg,List.any_eq_not_all_not]
 cases row.all (λx=> !(v==x)) <;> rfl
def ixW (s l t:Nat):Nat:=if t<s then t else s+(t-s) % l
def ltW (w:Word) (t:Nat):Int:=(w.Stem++w.Loop).getD (ixW w.Stem.length w.Loop.length t) 0
section
variable {w:Word}(hl:0<w.Loop.length)
include hl
theorem yF (t:Nat):ixW w.Stem.length w.Loop.length t<(w.Stem++w.Loop).length:=by
 have:=Nat.mod_lt (t-w.Stem.length) hl
 unfold ixW
 rw[DZ]
 split <;> omega
theorem lZ (t:Nat):(w.Stem++w.Loop)[ixW w.Stem.length w.Loop.length t]? =some (ltW w t):=by
 unfold ltW
 rw[o5,o7 (yF hl t)];rfl
omit hl in
theorem qK {i:Nat}(hi:i<(w.Stem++w.Loop).length):ixW w.Stem.length w.Loop.length i=i:=by
 rw[DZ]at hi
 unfold ixW
 split
 .rfl
 .rw[FM (by omega)];omega
theorem oK {i:Nat}{x:Int}(h:(w.Stem++w.Loop)[i]? =some x):ltW w i=x:=by
 have:=lZ hl i
 rw[qK (DX.1 h).1,h]at this
 exact(EU this).symm
theorem sM (t:Nat):ltW w t∈w.Stem++w.Loop:=EF (lZ hl t)
theorem xy {t:Nat}(a:w.Stem.length<=t):ltW w t∈w.Loop:=by
 have:=lZ hl t
 unfold ixW at this
 rw[if_neg (by omega),Et (by omega)]at this
 exact EF this
theorem zq {p:Int->Prop}:(∀t,p (ltW w t))↔∀x∈w.Stem++w.Loop,p x:=⟨λh x b=>by
 obtain⟨c,a⟩:=Ff b
 rw[← oK hl a];exact h c,λh t=>h _ (sM hl t)⟩
theorem tT {p:Int->Prop}:(F7 λt=>p (ltW w t))↔∃x∈w.Loop,p x:=⟨λh=>by
 obtain⟨m,h1,h2⟩:=h w.Stem.length
 exact⟨_,xy hl h1,h2⟩,λ⟨x,e,d⟩ N=>by
 obtain⟨a,b⟩:=Ff e
 have c:=(DX.1 b).1
 have hm:w.Stem.length+a+w.Loop.length * N>=N:=by
  have:=Nat.mul_le_mul_right N hl
  omega
 refine⟨w.Stem.length+a+w.Loop.length * N,hm,?_⟩
 have:=lZ hl (w.Stem.length+a+w.Loop.length * N)
 unfold ixW at this
 rw[if_neg (by omega),show w.Stem.length+a+w.Loop.length * N-w.Stem.length=a+w.Loop.length * N by omega,Nat.add_mul_mod_self_left,FM c,Et (by omega),show w.Stem.length+a-w.Stem.length=a by omega,b]at this
 show p (ltW w _)
 rw[← EU this];exact d⟩
theorem tI (t:Nat):ixW w.Stem.length w.Loop.length (t+1)=if ixW w.Stem.length w.Loop.length t+1<(w.Stem++w.Loop).length then ixW w.Stem.length w.Loop.length t+1 else w.Stem.length:=by
 rw[DZ]
 unfold ixW
 by_cases h:t<w.Stem.length
 .by_cases b:t+1<w.Stem.length
  .rw[if_pos h,if_pos b,if_pos (by omega)]
  .rw[if_pos h,if_neg b,if_pos (by omega),show t+1-w.Stem.length=0 by omega,Nat.zero_mod];omega
 .rw[if_neg h,if_neg (by omega),show t+1-w.Stem.length=t-w.Stem.length+1 by omega]
  have:=Nat.mod_lt (t-w.Stem.length) hl
  rw[Nat.add_mod]
  by_cases c:(t-w.Stem.length) % w.Loop.length+1=w.Loop.length
  .rw[if_neg (by omega)]
   by_cases d:w.Loop.length=1
   .rw[d];simp[Nat.mod_one]
   .rw[FM (a:=1) (by omega),c,Nat.mod_self];omega
  .rw[if_pos (by omega),FM (a:=1) (by omega),FM (by omega)];omega
end
theorem Ds (xs A:VI):m9 xs A=some (xs.all λx=>decide (x∈A)):=by
 unfold m9
 rw[cX (f:=kI xs A) (r:=false) (λx=>decide (x∈A)) (xs:=xs) rfl (λb x a=>by
  unfold kI
  rw[bH,a,Fz,lz,Fz]
  cases decide (x∈A) <;> rfl)]
 cases xs.all λx=>decide (x∈A) <;> rfl
theorem y4 (xs A:VI):gF xs A=some (xs.any λx=>decide (x∈A)):=by
 unfold gF
 rw[cX (f:=kK xs A) (r:=true) (λx=> !decide (x∈A)) (xs:=xs) rfl (λb x a=>by
  unfold kK
  rw[bH,a,Fz,lz,Fz]
  cases decide (x∈A) <;> rfl),List.any_eq_not_all_not]
 cases xs.all λx=> !decide (x∈A) <;> rfl
theorem om {xs A:VI}:(xs.any λx=>decide (x∈A))=true↔∃x∈xs,x∈A:=by
 rw[List.any_eq_true]
 exact⟨λ⟨x,h1,h2⟩=>⟨x,h1,of_decide_eq_true h2⟩,λ⟨x,h1,h2⟩=>⟨x,h1,decide_eq_true h2⟩⟩
theorem AC {xs A:VI}:(xs.all λx=>decide (x∈A))=true↔∀x∈xs,x∈A:=by
 rw[Fc]
 exact⟨λh x a=>of_decide_eq_true (h x a),λh x a=>decide_eq_true (h x a)⟩
theorem DO {p:Sig}(hs:sigOk p=true){c:Clause}(G:Clause.bd c) (u:cz p c=true){w:Word}(B:wordOk w (ltr p)=true):∃i,pD p c w=some i/\(i=true↔Sat c (ltW w)):=by
 obtain⟨R,S,T,U,V⟩:=si B
 obtain⟨k1,k7⟩:=nC u
 have hl:=oL hs
 have d:0<w.Loop.length:=by omega
 have N:lu p w=some true:=by
  unfold lu
  rw[eb,hs,eP hs]
  simp only[Fz,cond_true]
  rw[re w (by omega) (by omega),B];rfl
 have H:dj w.Stem=some w.Stem:=by
  unfold dj
  rw[appL (by rw[List.length_nil];omega) rfl];rfl
 have F:appS 8 w.Stem w.Loop=some (w.Stem++w.Loop):=appL (by omega) rfl
 unfold pD
 rw[mF hs G,u,N]
 simp only[Fz,E5,cond_false,H,F,Ds,y4]
 have O:(w.Stem++w.Loop).length<=1200:=by rw[DZ];omega
 unfold Sat
 rcases kinds k1 k7 with k|k|k|k|k|k|k <;> rw[k] <;> simp(config:={ decide:=true }) only[if_true,if_false]
 .exact⟨_,rfl,AC.trans (zq d (p:=λx=>x∈c.A)).symm⟩
 .show ∃i,EO (pL c (w.Stem++w.Loop) (w.Stem.length:Int)) _=some i/\_
  unfold pL
  have hn:∀a:Nat,a<(w.Stem++w.Loop).length->((w.Stem++w.Loop).getD (if a+1<(w.Stem++w.Loop).length then a+1 else w.Stem.length) 0)=ltW w (a+1):=λa l=>by
   unfold ltW
   rw[tI d,qK l]
  rw[cX (f:=kJ c (w.Stem++w.Loop) (w.Stem.length:Int)) (r:=false) (xs:=FK (w.Stem++w.Loop).length) (λa=> !decide (ltW w a∈c.A)||decide (ltW w (a+1)∈c.B)) (by simp) (λb x g=>by
   have e:b<(w.Stem++w.Loop).length:=by simpa using (DX.1 g).1
   have q:b=x:=EU ((F2 e).symm.trans g)
   subst q
   have L:(bif decide (ET .i64 ((b:Int)+1)<((w.Stem++w.Loop).length:Int)) then some (ET .i64 ((b:Int)+1)) else some (w.Stem.length:Int))=some (((if b+1<(w.Stem++w.Loop).length then b+1 else w.Stem.length:Nat):Int)):=by
    rw[wr' (by omega) (by omega)]
    by_cases h:b+1<(w.Stem++w.Loop).length
    .rw[decide_eq_true (by omega),if_pos h];rfl
    .rw[decide_eq_false (by omega),if_neg h];rfl
   have K:(if b+1<(w.Stem++w.Loop).length then b+1 else w.Stem.length)<(w.Stem++w.Loop).length:=by
    rw[DZ];split <;> omega
   have z:=o7 K
   have A:=hn b e
   rw[o5,z,F6]at A
   unfold kJ
   rw[L,Fz,bH,o7 e,Fz,lz,Fz,bH,z,A,← oK d (o7 e)]
   simp only[Fz,lz]
   cases decide (ltW w b∈c.A) <;> cases decide (ltW w (b+1)∈c.B) <;> rfl)]
  refine⟨(FK (w.Stem++w.Loop).length).all λa=> !decide (ltW w a∈c.A)||decide (ltW w (a+1)∈c.B),?_,?_⟩
  .cases(FK (w.Stem++w.Loop).length).all λa=> !decide (ltW w a∈c.A)||decide (ltW w (a+1)∈c.B) <;> rfl
  .rw[Fc]
   constructor
   .intro h t ha
    have g:=yF d t
    have:=h _ (FI.2 g)
    have D:ltW w (ixW w.Stem.length w.Loop.length t)=ltW w t:=oK d (lZ d t)
    have E:ltW w (ixW w.Stem.length w.Loop.length t+1)=ltW w (t+1):=by
     unfold ltW
     rw[tI d,tI d,qK g]
    rw[D,E,decide_eq_true ha]at this
    exact of_decide_eq_true this
   .intro h a _
    by_cases ha:ltW w a∈c.A
    .rw[decide_eq_true (h a ha),Bool.or_true]
    .rw[decide_eq_false ha];rfl
 .show ∃i,EO (mo c w (w.Stem++w.Loop)) _=some i/\_
  unfold mo
  rw[y4,Fz]
  by_cases j:∃x∈w.Loop,x∈c.B
  .rw[om.2 j]
   exact⟨true,rfl,⟨λ_ t _=>((tT d (p:=λx=>x∈c.B)).2 j) t,λ_=>rfl⟩⟩
  .rw[show(w.Loop.any λx=>decide (x∈c.B))=false from Bool.eq_false_iff.2 λh=>j (om.1 h),cond_false]
   rw[cX (f:=i9 c (w.Stem++w.Loop)) (r:=false) (xs:=FK (w.Stem++w.Loop).length) (λa=> !decide (ltW w a∈c.A)||((w.Stem++w.Loop).drop a).any λx=>decide (x∈c.B)) (by simp) (λb x g=>by
    have e:b<(w.Stem++w.Loop).length:=by simpa using (DX.1 g).1
    have q:b=x:=EU ((F2 e).symm.trans g)
    subst q
    have M:subS (w.Stem++w.Loop) (b:Int) ((w.Stem++w.Loop).length:Int)=some ((w.Stem++w.Loop).drop b):=by
     unfold subS
     rw[if_pos (by omega),Fb,Fb,List.take_length]
    unfold i9
    rw[bH,o7 e,Fz,lz,Fz,M,← oK d (o7 e)]
    simp only[Fz,y4]
    cases decide (ltW w b∈c.A) <;> cases((w.Stem++w.Loop).drop b).any λx=>decide (x∈c.B) <;> rfl)]
   refine⟨(FK (w.Stem++w.Loop).length).all λa=> !decide (ltW w a∈c.A)||((w.Stem++w.Loop).drop a).any λx=>decide (x∈c.B),?_,?_⟩
   .cases(FK (w.Stem++w.Loop).length).all λa=> !decide (ltW w a∈c.A)||((w.Stem++w.Loop).drop a).any λx=>decide (x∈c.B) <;> rfl
   .rw[Fc]
    constructor
    .intro h t ha
     have g:=yF d t
     have l:=h _ (FI.2 g)
     rw[show ltW w (ixW w.Stem.length w.Loop.length t)=ltW w t from oK d (lZ d t),decide_eq_true ha,E5,Bool.false_or]at l
     obtain⟨x,s,n⟩:=om.1 l
     obtain⟨b,e⟩:=Ff s
     rw[Ew]at e
     by_cases y:ixW w.Stem.length w.Loop.length t+b<w.Stem.length
     .refine⟨ixW w.Stem.length w.Loop.length t+b,?_,by rw[oK d e];exact n⟩
      unfold ixW at y ⊢
      split <;> rename_i I
      .omega
      .rw[if_neg I]at y;omega
     .exfalso
      rw[Et (by omega)]at e
      exact j ⟨x,EF e,n⟩
    .intro h a l
     by_cases ha:ltW w a∈c.A
     .obtain⟨m,Q,C⟩:=h a ha
      have P:m<w.Stem.length:=E8 λhn=>j ⟨_,xy d (by omega),C⟩
      have v:=lZ d m
      rw[qK (by rw[DZ];omega)]at v
      rw[show(((w.Stem++w.Loop).drop a).any λx=>decide (x∈c.B))=true from om.2 ⟨_,EF (i:=m-a) (by rw[Ew,show a+(m-a)=m by omega];exact v),C⟩,Bool.or_true]
     .rw[decide_eq_false ha];rfl
 .exact⟨_,rfl,om.trans (tT d (p:=λx=>x∈c.A)).symm⟩
 .refine⟨_,rfl,AC.trans ?_⟩
  rw[tT d (p:=λx=>x∉c.A)]
  exact⟨λh ⟨x,s,n⟩=>n (h x s),λh x g=>E8 λhn=>h ⟨x,g,hn⟩⟩
 .exact⟨_,rfl,om.trans ⟨λ⟨x,h1,h2⟩=>E8 λhn=>(zq d (p:=λx=>x∉c.A)).1 (λt o=>hn ⟨t,o⟩) x h1 h2,λ⟨t,o⟩=>⟨_,sM d t,o⟩⟩⟩
 .refine⟨!(w.Loop.any λx=>decide (x∈c.A))||(w.Loop.any λx=>decide (x∈c.B)),?_,?_⟩
  .cases(w.Loop.any λx=>decide (x∈c.A)) <;> cases(w.Loop.any λx=>decide (x∈c.B)) <;> rfl
  .rw[tT d (p:=λx=>x∈c.A),tT d (p:=λx=>x∈c.B),← om,← om]
   cases(w.Loop.any λx=>decide (x∈c.A)) <;> cases(w.Loop.any λx=>decide (x∈c.B)) <;> simp
def seg (X:Nat->Int):Nat->Nat->VI
 |_,0=>[]
 |t,n+1=>X t::seg X (t+1) n
theorem g9 (X:Nat->Int):∀n t,(seg X t n).length=n
 |0,_=>rfl
 |n+1,t=>congrArg (· + 1) (g9 X n (t+1))
theorem rz (X:Nat->Int):∀n t a,a<n->(seg X t n)[a]? =some (X (t+a))
 |n+1,t,0,_=>rfl
 |n+1,t,a+1,h=>by
  show(seg X (t+1) n)[a]? =_
  rw[rz X n (t+1) a (by omega),show t+1+a=t+(a+1) by omega]
theorem sY {X:Nat->Int}{xs:VI}{t:Nat}(h:∀a x,xs[a]? =some x->X (t+a)=x):xs=seg X t xs.length:=List.ext_getElem? λa=>by
 by_cases b:a<xs.length
 .rw[rz X _ t a b,o7 b,h a _ (o7 b)]
 .rw[FE (by omega),FE (by rw[g9];omega)]
theorem ig (X:Nat->Int):∀a b t,seg X t a++seg X (t+a) b=seg X t (a+b)
 |0,b,t=>by rw[Ef];rfl
 |a+1,b,t=>by
  rw[show a+1+b=a+b+1 by omega]
  show X t::(seg X (t+1) a++seg X (t+(a+1)) b)=X t::seg X (t+1) (a+b)
  rw[← ig X a b (t+1),show t+1+a=t+(a+1) by omega]
theorem y6 {X:Nat->Int}{P:Int->Prop}(h:∀t,P (X t)):∀n t,∀x∈seg X t n,P x
 |0,_,x,a=>by cases a
 |n+1,t,x,a=>by
  rcases List.mem_cons.1 a with b|a
  .rw[b];exact h t
  .exact y6 h n (t+1) x a
theorem BW {X:Nat->Int}{a b:Nat}(g:0<b) (j:∀t,a<=t->X (t+b)=X t) (t:Nat):ltW ⟨seg X 0 a,seg X a b⟩ t=X t:=by
 have f:∀c d,a<=d->X (d+b * c)=X d:=λc d hs=>by
  induction c with
  |zero=>rfl
  |succ c k=>rw[Nat.mul_succ,← Nat.add_assoc,j _ (by omega),k]
 have e:=ig X a b 0
 rw[Ef]at e
 unfold ltW
 dsimp only
 rw[e,g9,g9]
 have hm:=Nat.mod_lt (t-a) g
 have i:ixW a b t<a+b:=by unfold ixW;split <;> omega
 rw[o5,rz X _ 0 _ i,F6,Ef]
 unfold ixW
 split
 .rfl
 .have:=Nat.mod_add_div (t-a) b
  have h2:=f ((t-a) / b) (a+(t-a) % b) (by omega)
  rw[show a+(t-a) % b+b * ((t-a) / b)=t by omega]at h2
  exact h2.symm
theorem xx {w:Word}(d:0<w.Loop.length) (j:Nat):w.Loop=seg (ltW w) (w.Stem.length+j * w.Loop.length) w.Loop.length:=sY λa x b=>by
 have c:=(DX.1 b).1
 have:=lZ d (w.Stem.length+j * w.Loop.length+a)
 unfold ixW at this
 rw[if_neg (by omega),show w.Stem.length+j * w.Loop.length+a-w.Stem.length=a+w.Loop.length * j by rw[F5];omega,Nat.add_mul_mod_self_left,FM c,Et (by omega),show w.Stem.length+a-w.Stem.length=a by omega,b]at this
 exact(EU this).symm
theorem xu {b:Int->Int}{f:Nat->Int}(a:∀c,f (c+1)=b (f c)):∀(k:Nat) (T:VI) (q:Int),T=seg f 0 T.length->q=f T.length->(lasso b k T q).1=seg f 0 (lasso b k T q).1.length/\(lasso b k T q).2=f (lasso b k T q).1.length
 |0,T,q,h1,h2=>⟨h1,h2⟩
 |k+1,T,q,h1,h2=>by
  unfold lasso
  split
  .exact⟨h1,h2⟩
  .refine xu a k _ _ ?_ ?_
   .have:=ig f T.length 1 0
    rw[← h1,Ef]at this
    rw[DZ,List.length_singleton,← this,h2];rfl
   .rw[DZ,List.length_singleton,a,h2]
theorem xd {X:Nat->Int}{part:Int->VI}{f:Nat->Int}{l s:Nat}(b:∀c,part (f c)=seg X (s+c * l) l):∀n a,(seg f a n).flatMap part=seg X (s+a * l) (n * l)
 |0,a=>by rw[Nat.zero_mul];rfl
 |n+1,a=>by
  show part (f a)++(seg f (a+1) n).flatMap part=_
  rw[b,xd b n (a+1),show s+(a+1) * l=s+a * l+l by rw[D6,Nat.one_mul];omega,ig,show(n+1) * l=l+n * l by rw[D6,Nat.one_mul];omega]
theorem zM (X:Nat->Int) (a b:Nat):(seg X 0 (a+b)).take a=seg X 0 a/\(seg X 0 (a+b)).drop a=seg X a b:=by
 have h:=ig X a b 0
 rw[Ef]at h
 rw[← h]
 exact⟨List.take_left' (g9 X a 0),List.drop_left' (g9 X a 0)⟩
def itB (b:Int->Int) (q:Int):Nat->Int
 |0=>q
 |j+1=>b (itB b q j)
theorem tO {X:Nat->Int}{part:Int->VI}{b:Int->Int}{f:Nat->Int}{l s M:Nat}(hl:0<l) (m:∀c,part (f c)=seg X (s+c * l) l) (d:∀c,f (c+1)=b (f c)) (A:∀q:Int,0<=q->q<M->0<=b q/\b q<M) (G:0<=f 0) (H:f 0<M):
 ∃(T:VI) (z:Int) (k:Nat),lasso b (M+1) [] (f 0)=(T,z)/\dE T z=(k:Int)/\k<T.length/\T.length<=M/\seg X 0 s++T.flatMap part=seg X 0 (s+k * l+(T.length-k) * l)/\0<(T.length-k) * l/\s+k * l+(T.length-k) * l=s+T.length * l/\ltW ⟨seg X 0 (s+k * l),seg X (s+k * l) ((T.length-k) * l)⟩=X:=by
 obtain⟨n,o,p⟩:=tN A (M+1) [] (f 0) (by simp) (by simp) (by simp) G H
 obtain⟨e,r⟩:=xu d (M+1) [] (f 0) rfl rfl
 generalize lasso b (M+1) [] (f 0)=L at *
 obtain⟨T,z⟩:=L
 dsimp only at n o p e r
 have y:=cZ _ T o p
 obtain⟨k,F,u,v⟩:=uc n
 have D:f T.length=f k:=by
  rw[e,rz _ _ 0 k u,Ef]at v
  rw[EU v,← r]
 have I:(T.length-k) * l+k * l=T.length * l:=by rw[← D6,Nat.sub_add_cancel (by omega)]
 have C:∀a,f (k+a+(T.length-k))=f (k+a):=λa=>by
  induction a with
  |zero=>rw[Nat.add_zero,← D];congr 1;omega
  |succ a E=>rw[show k+(a+1)+(T.length-k)=k+a+(T.length-k)+1 by omega,d,E];exact(d _).symm
 have g:∀c a,a<l->X (s+c * l+a)=(part (f c)).getD a 0:=λc a B=>by
  rw[m,o5,rz _ _ _ a B];rfl
 have j:=xd (X:=X) (part:=part) (f:=f) (l:=l) (s:=s) m T.length 0
 rw[← e,Nat.zero_mul,Nat.add_zero]at j
 have i:=ig X s (T.length * l) 0
 rw[Ef]at i
 refine⟨T,z,k,rfl,F,u,y,?_,Nat.mul_pos (by omega) hl,by omega,funext λt=>BW (Nat.mul_pos (by omega) hl) (λt K=>?_) t⟩
 .rw[j,i]
  congr 1
  omega
 .have h1:=Nat.mod_add_div (t-(s+k * l)) l
  have h2:=Nat.mod_lt (t-(s+k * l)) hl
  generalize(t-(s+k * l)) % l=a at h1 h2
  generalize(t-(s+k * l)) / l=c at h1
  have w:t=s+(k+c) * l+a:=by rw[D6,F5 c];omega
  have x:t+(T.length-k) * l=s+(k+c+(T.length-k)) * l+a:=by rw[D6 (k+c)];omega
  rw[x,g _ _ h2,C,w,g _ _ h2]
def rowOk (p:Sig) (m:Machine) (i:Nat) (row:VI):Bool:=
 match m.Out[i]? with
 |some a=>((row.length:Int)==pw p.In)&&((a.length:Int)==(row.length:Int))&&row.all (inR (m.Next.length:Int))&&a.all (inR (pw p.Out))
 |none=>false
def machOk (p:Sig) (m:Machine):Bool:=decide (1<=(m.Next.length:Int))&&decide ((m.Next.length:Int)<=48)&&((m.Out.length:Int)==(m.Next.length:Int))&&m.Next.zipIdx.all (λx=>rowOk p m x.2 x.1)
theorem tz {p:Sig}(hs:sigOk p=true) (m:Machine):lP p m=some (machOk p m):=by
 unfold lP machOk
 obtain⟨j,c⟩:=db hs
 simp only[orE,Fz,qb,bne]
 rw[← Bool.not_and,← Bool.not_and]
 cases h1:(decide (1<=(m.Next.length:Int))&&decide ((m.Next.length:Int)<=48)&&((m.Out.length:Int)==(m.Next.length:Int))) with
 |false=>rfl
 |true=>
  simp only[C8,decide_eq_true_eq,beq_iff_eq]at h1
  simp only[E5,cond_false,Fz,Bool.true_and]
  rw[mM (f:=iF p m) (r:=false) (rowOk p m) (xs:=m.Next) rfl (λg a e=>by
   have k:=(DX.1 e).1
   obtain⟨b,d⟩:∃b,m.Out[g]? =some b:=⟨_,o7 (by omega)⟩
   have i:rowOk p m g a=(((a.length:Int)==pw p.In)&&((b.length:Int)==(a.length:Int))&&a.all (inR (m.Next.length:Int))&&b.all (inR (pw p.Out))):=by unfold rowOk;rw[d]
   rw[i]
   unfold iF
   rw[bH,bH,e,d]
   simp only[Fz,dW hs,(eZ c).1,(eZ c).2,fk,bne]
   generalize((a.length:Int)==pw p.In)=b1
   generalize((b.length:Int)==(a.length:Int))=b2
   generalize a.all (inR (m.Next.length:Int))=b3
   generalize b.all (inR (pw p.Out))=b4
   cases b1 <;> cases b2 <;> cases b3 <;> cases b4 <;> rfl)]
  cases List.all m.Next.zipIdx (λx=>rowOk p m x.2 x.1) <;> rfl
theorem xz {p:Sig}{m:Machine}(h:machOk p m=true):1<=m.Next.length/\m.Next.length<=48/\m.Out.length=m.Next.length /\
 (∀a∈m.Next,RowIn m.Next.length (pw p.In) a)/\(∀a∈m.Out,RowIn (pw p.Out) (pw p.In) a):=by
 simp only[machOk,C8,decide_eq_true_eq,beq_iff_eq]at h
 obtain⟨⟨⟨h1,h2⟩,n⟩,f⟩:=h
 rw[Fc]at f
 have i:∀(b:Nat) a,m.Next[b]? =some a->∃c,m.Out[b]? =some c/\RowIn m.Next.length (pw p.In) a/\RowIn (pw p.Out) (pw p.In) c:=λb a hr=>by
  have:=f (a,b) (List.mem_zipIdx_iff_getElem?.2 hr)
  unfold rowOk at this
  cases e:m.Out[b]? with
  |none=>simp[e]at this
  |some c=>
   simp only[e,C8,beq_iff_eq,Fc,dc]at this
   obtain⟨⟨⟨k1,q⟩,k⟩,l⟩:=this
   exact⟨c,rfl,⟨k1,k⟩,⟨by omega,l⟩⟩
 refine⟨by omega,by omega,by omega,λa hr=>?_,λc e=>?_⟩
 .obtain⟨b,d⟩:=List.mem_iff_getElem?.1 hr
  exact(i b a d).choose_spec.2.1
 .obtain⟨b,d⟩:=List.mem_iff_getElem?.1 e
  have o:=(DX.1 d).1
  obtain⟨r,g,_,j⟩:=i b _ (o7 (by omega))
  rw[d]at g
  cases g
  exact j
theorem qN (f:Int->Bool) (xs:VI) (p:Nat):∀n:Nat,dh f xs n<(p:Int)↔∀(j:Nat) x,p<=j->j<n->xs[j]? =some x->f x=false
 |0=>⟨λ_ j x _ h=>absurd h (Fx j),λ_=>by unfold dh;omega⟩
 |n+1=>by
  have e:=qN f xs p n
  have g:∀j,j<n+1->j<n\/j=n:=λj k=>by omega
  unfold dh
  cases d:xs[n]? with
  |none=>
   dsimp only
   rw[cond_false,e]
   exact⟨λh j x h1 h2 a=>(g j h2).elim (λh2=>h j x h1 h2 a) λb=>by(subst b;rw[d]at a;cases a),λh j x h1 h2=>h j x h1 (by omega)⟩
  |some i=>
   dsimp only
   cases c:f i with
   |true=>
    rw[cond_true]
    refine⟨λh j x h1 h2=>by omega,λh=>E8 λhn=>?_⟩
    rw[h n i (by omega) (by omega) d]at c
    cases c
   |false=>
    rw[cond_false,e]
    exact⟨λh j x h1 h2 a=>(g j h2).elim (λh2=>h j x h1 h2 a) λb=>by(subst b;rw[d]at a;cases a;exact c),λh j x h1 h2=>h j x h1 (by omega)⟩
theorem tP {f:Int->Bool}{xs:VI}{j:Nat}:∀{n:Nat},dh f xs n=(j:Int)->∃x,xs[j]? =some x/\f x=true
 |0,h=>by unfold dh at h;omega
 |n+1,h=>by
  unfold dh at h
  cases b:xs[n]? with
  |none=>
   rw[b]at h
   dsimp only at h
   rw[cond_false]at h
   exact tP h
  |some c=>
   rw[b]at h
   dsimp only at h
   cases a:f c with
   |true=>
    rw[a,cond_true]at h
    have:n=j:=by omega
    subst this
    exact⟨c,b,a⟩
   |false=>
    rw[a,cond_false]at h
    exact tP h
theorem oO (ps:VP) (rc:VI) (v:Int):(lh ps rc v=0/\dh (askI ps v) rc rc.length<0/\dh (c9 ps v) rc rc.length<0) \/
 (dh (c9 ps v) rc rc.length<dh (askI ps v) rc rc.length/\lh ps rc v=2 * dh (askI ps v) rc rc.length+1)\/(dh (askI ps v) rc rc.length<=dh (c9 ps v) rc rc.length/\0<=dh (c9 ps v) rc rc.length/\lh ps rc v=2 * dh (c9 ps v) rc rc.length+2):=by
 have b:=iN (askI ps v) rc rc.length
 have g:=iN (c9 ps v) rc rc.length
 unfold lh
 generalize dh (askI ps v) rc rc.length=x at *
 generalize dh (c9 ps v) rc rc.length=y at *
 by_cases h1:x<0 <;> by_cases h2:y<0 <;> by_cases a:y<x <;> simp[h1,h2,a] <;> omega
theorem frozen {G:Int->Bool}{xs:VI}{p:Nat}(h:∀(j:Nat) x,p<=j->xs[j]? =some x->G x=false){j:Nat}(f:p<=j):(xs.filter G++xs.filter λx=> !G x)[j]? =xs[j]?:=by
 have hd:∀x∈xs.drop p,G x=false:=λx a=>by
  obtain⟨g,b⟩:=Ff a
  rw[Ew]at b
  exact h _ x (by omega) b
 have h1:(xs.drop p).filter G=[]:=List.filter_eq_nil_iff.2 λx a=>by rw[hd x a];simp
 have h2:((xs.drop p).filter λx=> !G x)=xs.drop p:=List.filter_eq_self.2 λx a=>by rw[hd x a];rfl
 have c:=List.take_append_drop p xs
 have d:=ni G (xs.take p)
 have e:(xs.take p).length<=p:=by rw[EB];omega
 conv=>rw[← c]
 rw[FD,FD,h1,h2,List.append_nil,← List.append_assoc,Et (by rw[DZ];omega),Et (by omega),DZ,d]
theorem moved {G:Int->Bool}{xs:VI}{p:Nat}{i:Int}(e:xs[p]? =some i) (hi:G i=false):∃b,p<=b/\(xs.filter G++xs.filter λx=> !G x)[b]? =some i/\(b=p->∀(j:Nat) x,p<=j->xs[j]? =some x->G x=false):=by
 obtain⟨A,B,c,k⟩:∃A B,xs=A++i::B/\A.length=p:=by
  obtain⟨hl,f⟩:=DX.1 e
  refine⟨xs.take p,xs.drop (p+1),?_,by rw[EB];omega⟩
  have:=List.drop_eq_getElem_cons hl
  rw[f]at this
  rw[← this,List.take_append_drop]
 subst c
 have g:=ni G A
 refine⟨p+(B.filter G).length,by omega,?_,λc j x l a=>?_⟩
 .rw[FD,FD,List.filter_cons_of_neg (by rw[hi];simp),List.filter_cons_of_pos (by rw[hi];rfl),Et (by rw[DZ];omega),Et (by rw[DZ];omega),DZ]
  rw[show p+(B.filter G).length-((A.filter G).length+(B.filter G).length)-(A.filter λx=> !G x).length=0 by omega];rfl
 .have d:B.filter G=[]:=List.length_eq_zero_iff.1 (by omega)
  rw[Et (by omega)]at a
  match hq:j-A.length,a with
  |0,a=>cases a;exact hi
  |q+1,a=>
   have:=List.filter_eq_nil_iff.1 d x (EF a)
   simpa using this
theorem AH {Q:Nat->Prop}:∀{b:Nat},(∃n,Q n)->(∀n,Q n->n<b)->∃n,Q n/\∀m,Q m->m<=n
 |0,⟨n,hn⟩,hb=>absurd (hb n hn) (Fx n)
 |b+1,h,hb=>by
  by_cases a:Q b
  .exact⟨b,a,λm hm=>by have:=hb m hm;omega⟩
  .exact AH (b:=b) h λn hn=>by
    have:=hb n hn
    have:n≠b:=λc=>a (c ▸ hn)
    omega
section
variable {ps:VP}{k:Nat}{v:Nat->Int}{rc:Nat->VI}(hk:∀t,(rc t).length=k) (hn:∀t,rc (t+1)=fG ps (rc t) (v t)){d:Int}(hio:F7 λt=>lh ps (rc t) (v t)=d){N:Nat}(hle:∀t,N<=t->lh ps (rc t) (v t)<=d)
include hk hn hio hle
omit hk in
theorem B5 (hd:d % 2=1):∃b,b∈rc 0/\(F7 λt=>askI ps (v t) b=true)/\¬F7 λt=>c9 ps (v t) b=true:=by
 obtain⟨a,ha⟩:∃a:Nat,d=2 * (a:Int)+1:=by
  obtain⟨t,_,k⟩:=hio 0
  have:=iN (askI ps (v t)) (rc t) (rc t).length
  have:=iN (c9 ps (v t)) (rc t) (rc t).length
  rcases oO ps (rc t) (v t) with h|h|h
  .omega
  .exact⟨(dh (askI ps (v t)) (rc t) (rc t).length).toNat,by omega⟩
  .omega
 have r:∀t,N<=t->∀(e:Nat) x,a<=e->(rc t)[e]? =some x->c9 ps (v t) x=false:=λt k e x w c=>by
  refine(qN (c9 ps (v t)) (rc t) a (rc t).length).1 ?_ e x w (DX.1 c).1 c
  have:=hle t k
  rcases oO ps (rc t) (v t) with h|h|h <;> omega
 have q:∀m,(rc (N+m))[a]? =(rc N)[a]?:=λm=>by
  induction m with
  |zero=>rfl
  |succ m l=>
   rw[← l,show N+(m+1)=N+m+1 from rfl,hn]
   exact frozen (r _ (by omega)) (Ec a)
 have p:∀t,N<=t->lh ps (rc t) (v t)=d->∃x,(rc N)[a]? =some x/\askI ps (v t) x=true:=λt k A=>by
  obtain⟨x,i,o⟩:=tP (f:=askI ps (v t)) (xs:=rc t) (j:=a) (n:=(rc t).length) (by rcases oO ps (rc t) (v t) with h|h|h <;> omega)
  refine⟨x,?_,o⟩
  rw[← i,← q (t-N),show N+(t-N)=t by omega]
 obtain⟨z,h0,u⟩:=hio N
 obtain⟨b,j,_⟩:=p z h0 u
 have y:∀t x,x∈rc t->x∈rc 0:=λt=>by
  induction t with
  |zero=>exact λx h=>h
  |succ t l=>
   intro x c
   rw[hn]at c
   unfold fG at c
   rcases D2.1 c with h|h <;> exact l x (Fk.1 h).1
 refine⟨b,y N b (EF j),λM=>?_,λh=>?_⟩
 .obtain⟨t,s,g⟩:=hio (max M N)
  obtain⟨x,i,o⟩:=p t (by omega) g
  rw[j]at i
  cases i
  exact⟨t,by omega,o⟩
 .obtain⟨t,s,g⟩:=h N
  have:=r t s a b (Ec a) (by rw[← j,← q (t-N),show N+(t-N)=t by omega])
  rw[this]at g
  cases g
theorem zV (hd:d % 2=0){i:Int}(hi:i∈rc 0) (ha:F7 λt=>askI ps (v t) i=true):F7 λt=>c9 ps (v t) i=true:=by
 intro M
 apply E8
 intro B
 have r:∀t,M<=t->c9 ps (v t) i=false:=λt y=>Bool.eq_false_iff.2 λh=>B ⟨t,y,h⟩
 have A:∀t,i∈rc t:=λt=>by
  induction t with
  |zero=>exact hi
  |succ t l=>
   rw[hn]
   unfold fG
   rw[D2,Fk,Fk]
   cases c9 ps (v t) i <;> simp[l]
 obtain⟨p,⟨a,h0,e⟩,u⟩:=AH (Q:=λp=>∃t,M<=t/\(rc t)[p]? =some i) (b:=k) (by
  obtain⟨p,e⟩:=Ff (A M)
  exact⟨p,M,Ec M,e⟩) (λp ⟨t,_,e⟩=>by
  have:=(DX.1 e).1
  rwa [hk]at this)
 have w:∀m,(rc (a+m))[p]? =some i:=λm=>by
  induction m with
  |zero=>exact e
  |succ m l=>
   obtain⟨f,E,g,_⟩:=moved l (r (a+m) (by omega))
   have:(rc (a+m+1))[f]? =some i:=by rw[hn];exact g
   have:=u f ⟨_,by omega,this⟩
   have j:f=p:=by omega
   subst j
   rw[show a+(m+1)=a+m+1 from rfl,hn]
   exact g
 have s:∀t,a<=t->dh (c9 ps (v t)) (rc t) (rc t).length<(p:Int):=λt y=>by
  have j:a+(t-a)=t:=by omega
  have h1:=w (t-a)
  rw[j]at h1
  obtain⟨f,E,g,F⟩:=moved h1 (r t (by omega))
  have:=u f ⟨t+1,by omega,by rw[hn];exact g⟩
  exact(qN _ _ p _).2 λD x z _ C=>F (by omega) D x z C
 obtain⟨c,h1,o⟩:=ha (max a N)
 have G:=hle c (by omega)
 have H:=s c (by omega)
 have I:¬dh (askI ps (v c)) (rc c) (rc c).length<(p:Int):=λh=>by
  have h2:=w (c-a)
  rw[show a+(c-a)=c by omega]at h2
  have:=(qN _ _ p _).1 h p i (Ec p) (DX.1 h2).1 h2
  rw[this]at o
  cases o
 obtain⟨n,h2,L⟩:=hio a
 have K:=s n h2
 rcases oO ps (rc c) (v c) with h|h|h <;> rcases oO ps (rc n) (v n) with q|q|q <;> omega
end
def recP (P:VL) (y:Int):VI:=match idx P y with | some v=>v.Record | none=>[]
theorem wV {ps:VP}{i:Nat}{a:Pair}(h:ps[i]? =some a) (v:Int):askI ps v (i:Int)=true↔v∈a.Ask:=by
 unfold askI
 rw[bH,h]
 simp
theorem uU {ps:VP}{i:Nat}{a:Pair}(h:ps[i]? =some a) (v:Int):c9 ps v (i:Int)=true↔v∈a.Give:=by
 unfold c9
 rw[bH,h]
 simp
section
variable {d:Det}{n m k:Nat}{A:Arena}{P:VL}{g:Parity}{W:Int->Prop}{pk:VI}(h:Cx d n m k A P g W pk){q:Bool}{π:Nat->Int}(hπ:Par.Play (gI g) q (Par.Rg (Xn P.length) (wB W) q) (pkL pk) π) (h0:π 0=0)
include h hπ
theorem Cx.recs (t:Nat):(recP P (π t)).length=d.Pairs.length/\recP P (π (t+1))=fG d.Pairs (recP P (π t)) (atP P (π t))/\(gI g).pri (π t)=lh d.Pairs (recP P (π t)) (atP P (π t)):=by
 obtain⟨⟨a,_⟩,l,_⟩:=hπ t
 obtain⟨v,c,_,_⟩:=h.place a
 have b:P[(π t).toNat]? =some v:=by rw[← cB a.1];exact c
 have m:=h.rg.game.inn v (EF b)
 obtain⟨_,e,r,o,f,_,i⟩:=h.rg.game.row _ v (DX.1 b).1 b
 have k:recP P (π t)=v.Record:=by unfold recP;rw[c]
 rw[k,eA c]
 refine⟨m.rl,?_,?_⟩
 .obtain⟨n,p,_,j⟩:=i.to _ ((lJ (by rw[cB a.1];exact f)).1 l)
  unfold recP
  rw[cB n,j]
 .show priL g.Prio (π t)=_
  unfold priL
  rw[cB a.1,e];rfl
theorem Cx.wins:Par.Wins (gI g) q π:=by
 have d:=h.len.1
 have ha:=h.sol.ans
 rw[d]at ha
 refine ha.wins (n:=P.length) (b:=41) (λv a=>a) (λv a=>?_) hπ
 obtain⟨x,c⟩:=ch (xs:=g.Prio) a.1 (by rw[d];exact a.2)
 have:=(GOk.of h.ok).pri v x c
 show 0<=priL g.Prio v/\priL g.Prio v<41
 unfold priL
 rw[c,F6]
 omega
include h0
omit hπ in
theorem Cx.rec0:recP P (π 0)=firstR d.Pairs.length:=by
 rw[h0]
 unfold recP
 rw[show(0:Int)=((0:Nat):Int) from rfl,bH,h.rg.game.zero]
theorem Cx.even (g:q=false){i:Nat}{b:Pair}(a:d.Pairs[i]? =some b):Well b.Ask b.Give λt=>atP P (π t):=by
 obtain⟨D,c,e,N,f⟩:=h.wins hπ
 have hr:=h.recs hπ
 intro ha
 refine(iL λt=>uU a _).1 (zV (rc:=λt=>recP P (π t)) (v:=λt=>atP P (π t)) (λt=>(hr t).1) (λt=>(hr t).2.1) (d:=D) (λN=>?_) (N:=N) (λt j=>?_) ?_ ?_ ((iL λt=>wV a _).2 ha))
 .obtain⟨t,k,l⟩:=e N
  exact⟨t,k,(hr t).2.2.symm.trans l⟩
 .rw[← (hr t).2.2];exact f t j
 .subst g
  unfold Par.oddP at c
  have:=of_decide_eq_false c
  omega
 .show(i:Int)∈recP P (π 0)
  rw[h.rec0 h0]
  exact EE.2 ⟨i,FI.2 (DX.1 a).1,rfl⟩
theorem Cx.odd (m:q=true):∃(i:Nat) (f:Pair),d.Pairs[i]? =some f/\¬Well f.Ask f.Give λt=>atP P (π t):=by
 obtain⟨D,g,j,N,k⟩:=h.wins hπ
 have hr:=h.recs hπ
 obtain⟨i,a,p,r⟩:=B5 (rc:=λt=>recP P (π t)) (v:=λt=>atP P (π t)) (λt=>(hr t).2.1) (d:=D) (λN=>by
  obtain⟨t,s,u⟩:=j N
  exact⟨t,s,(hr t).2.2.symm.trans u⟩) (N:=N) (λt n=>by rw[← (hr t).2.2];exact k t n) (by
  subst m
  exact of_decide_eq_true g)
 have a:i∈recP P (π 0):=a
 rw[h.rec0 h0]at a
 obtain⟨b,l,c⟩:=EE.1 a
 have c:(b:Int)=i:=c
 subst c
 have e:d.Pairs[b]? =some (d.Pairs[b]'(FI.1 l)):=o7 _
 exact⟨b,_,e,λo=>r ((iL λt=>uU e _).2 (o ((iL λt=>wV e _).1 p)))⟩
end
def alt (x y:Nat->Int) (t:Nat):Int:=if t % 2=0 then x (t / 2) else y (t / 2)
theorem oh (x y:Nat->Int) (t:Nat):alt x y (2 * t)=x t:=by
 unfold alt
 rw[if_pos (by omega),show 2 * t / 2=t by omega]
theorem vu (x y:Nat->Int) (t:Nat):alt x y (2 * t+1)=y t:=by
 unfold alt
 rw[if_neg (by omega),show(2 * t+1) / 2=t by omega]
theorem uP (t:Nat):(∃a,t=2 * a)\/∃a,t=2 * a+1:=by
 by_cases h:t % 2=0
 .exact .inl ⟨t / 2,by omega⟩
 .exact .inr ⟨t / 2,by omega⟩
theorem AP {x y:Nat->Int}{S:Int->Prop}(c:∀t,¬S (y t)):(F7 λt=>S (alt x y t))↔F7 λt=>S (x t):=⟨λh N=>by
 obtain⟨t,d,a⟩:=h (2 * N)
 rcases uP t with ⟨b,rfl⟩|⟨b,rfl⟩
 .rw[oh]at a
  exact⟨b,by omega,a⟩
 .rw[vu]at a
  exact absurd a (c b),λh N=>by
 obtain⟨t,d,a⟩:=h N
 exact⟨2 * t,by omega,by show S (alt x y (2 * t));rw[oh];exact a⟩⟩
theorem Bv {x y:Nat->Int}{A G:VI}{P:VL}(b:∀t,atP P (y t)∉A) (c:∀t,atP P (y t)∉G):(Well A G λt=>atP P (alt x y t))↔Well A G λt=>atP P (x t):=by
 unfold Well
 rw[AP (S:=λa=>atP P a∈A) b,AP (S:=λa=>atP P a∈G) c]
def rivalOk (p:Sig) (r:Rival):Bool:=
 decide (1<=(r.In.length:Int))&&decide ((r.In.length:Int)<=256)&&((r.Next.length:Int)==(r.In.length:Int))&&r.In.all (inR (pw p.In))&&r.Next.all (λa=>((a.length:Int)==pw p.Out)&&a.all (inR (r.In.length:Int)))
theorem wc (p:Sig) (r:Rival) (hr:r.In.length<=1048576):pE p r=some (sigOk p&&rivalOk p r):=by
 unfold pE
 rw[eb,Fz]
 cases hs:sigOk p with
 |false=>simp
 |true=>
  obtain⟨h1,h2⟩:=db hs
  simp only[E5,cond_false,dA,Fz,eY,da h1]
  unfold rivalOk
  have d:=eu p.In
  rw[jT _ (by omega) (by omega)]
  have hm:=cX (f:=kA p r) (r:=false) (λa=>((a.length:Int)==pw p.Out)&&a.all (inR (r.In.length:Int))) (xs:=r.Next) rfl (λe b c=>by
   unfold kA
   simp only[bH,c,Fz,fb,da h2,jT b (n:=(r.In.length:Int)) (by omega) (by omega),bne]
   generalize b.all (inR (r.In.length:Int))=b1
   generalize((b.length:Int)==pw p.Out)=b2
   cases b1 <;> cases b2 <;> rfl)
  rw[hm,bne]
  generalize(r.Next.all (λa=>((a.length:Int)==pw p.Out)&&a.all (inR (r.In.length:Int))))=b1
  generalize((r.Next.length:Int)==(r.In.length:Int))=b2
  generalize r.In.all (inR (pw p.In))=b3
  generalize(decide (1<=(r.In.length:Int))&&decide ((r.In.length:Int)<=256))=b4
  cases b1 <;> cases b2 <;> cases b3 <;> cases b4 <;> rfl
theorem nt (p:Sig) (r:Rival) (hs:sigOk p=true):kQ p r=some (rivalOk p r):=by
 obtain⟨h1,h2⟩:=db hs
 unfold kQ rivalOk cJ
 simp only[(eZ h1).1,(eZ h1).2,Fz,fk]
 have hm:=cX (f:=kg p r) (r:=false) (λa=>((a.length:Int)==pw p.Out)&&a.all (inR (r.In.length:Int))) (xs:=r.Next) rfl (λg b e=>by
  unfold kg
  simp only[bH,e,Fz,(eZ h2).1,(eZ h2).2,fk,bne]
  generalize b.all (inR (r.In.length:Int))=b1
  generalize((b.length:Int)==pw p.Out)=b2
  cases b1 <;> cases b2 <;> rfl)
 rw[hm,bne]
 have c:decide ((r.In.length:Int)<1)= !(decide (1<=(r.In.length:Int))):=by rw[← decide_not];exact decide_eq_decide.2 (by omega)
 have d:decide (256<(r.In.length:Int))= !(decide ((r.In.length:Int)<=256)):=by rw[← decide_not];exact decide_eq_decide.2 (by omega)
 rw[c,d]
 generalize(r.Next.all (λa=>((a.length:Int)==pw p.Out)&&a.all (inR (r.In.length:Int))))=b1
 generalize((r.Next.length:Int)==(r.In.length:Int))=b2
 generalize r.In.all (inR (pw p.In))=b3
 generalize(decide (1<=(r.In.length:Int)))=b4
 generalize(decide ((r.In.length:Int)<=256))=b5
 cases b1 <;> cases b2 <;> cases b3 <;> cases b4 <;> cases b5 <;> rfl
theorem fa {p:Sig}{r:Rival}(h:rivalOk p r=true):1<=r.In.length/\r.In.length<=256/\r.Next.length=r.In.length/\(∀x∈r.In,0<=x/\x<pw p.In)/\∀a∈r.Next,(a.length:Int)=pw p.Out/\∀x∈a,0<=x/\x<r.In.length:=by
 simp only[rivalOk,C8,decide_eq_true_eq,beq_iff_eq,Fc,dc]at h
 obtain⟨⟨⟨⟨h1,h2⟩,d⟩,b⟩,c⟩:=h
 exact⟨by omega,by omega,by omega,b,c⟩
theorem uK {p:Sig}(hs:sigOk p=true){x o:Int}(e:0<=x) (f:x<pw p.In) (a:0<=o) (d:o<pw p.Out):gl p x o=some (o * pw p.In+x):=by
 have j:=eu p.In
 have k:=eu p.Out
 obtain⟨b,c⟩:=db hs
 have g:0<=o * pw p.In:=Int.mul_nonneg a (by omega)
 have i:o * pw p.In<=4 * 4:=Int.mul_le_mul (by omega) (by omega) (by omega) (by omega)
 unfold gl
 simp only[eb,hs,Fz,E5,cond_false,da b,da c]
 rw[wr' (z:=pw p.In-1) (by omega) (by omega),wr' (z:=pw p.Out-1) (by omega) (by omega),wr' (z:=o * pw p.In) (by omega) (by omega),wr' (by omega) (by omega)]
 simp only[dA,vI,Fz,dc.2 ⟨e,f⟩,dc.2 ⟨a,d⟩,E5,cond_false]
def inAt (r:Rival) (q:Int):Int:=r.In.getD q.toNat 0
section
variable {p:Sig}{r:Rival}(hr:rivalOk p r=true)
include hr
theorem sH {q:Int}(b:0<=q) (f:q<r.In.length):idx r.In q=some (inAt r q)/\0<=inAt r q/\inAt r q<pw p.In:=by
 obtain⟨_,_,_,d,_⟩:=fa hr
 obtain⟨x,a,e⟩:=eB (xs:=r.In) b f
 have c:inAt r q=x:=by
  unfold inAt
  rw[cB b]at a
  rw[o5,a,F6]
 rw[c]
 exact⟨a,d x e⟩
theorem qR {q o:Int}(e:0<=q) (g:q<r.In.length) (c:0<=o) (d:o<pw p.Out):∃a,idx r.Next q=some a/\idx a o=some (tab r.Next q o)/\0<=tab r.Next q o/\tab r.Next q o<r.In.length:=by
 obtain⟨_,_,f,_,b⟩:=fa hr
 exact pe (t:=r.Next) (n:=r.In.length) (l:=pw p.Out) b e (by omega) c d
end
def runR (r:Rival) (O:Nat->Int):Nat->Int
 |0=>0
 |t+1=>tab r.Next (runR r O t) (O t)
def letR (p:Sig) (r:Rival) (O:Nat->Int) (t:Nat):Int:=O t * pw p.In+inAt r (runR r O t)
def runD (d:Det) (X:Nat->Int):Nat->Int
 |0=>0
 |t+1=>tab d.Next (runD d X t) (X t)
theorem qT {p:Sig}{r:Rival}(hr:rivalOk p r=true){O:Nat->Int}(hO:∀t,0<=O t/\O t<pw p.Out):∀t,0<=runR r O t/\runR r O t<r.In.length
 |0=>by
  obtain⟨b,_⟩:=fa hr
  show(0:Int)<=0/\(0:Int)<_
  omega
 |t+1=>by
  obtain⟨_,_,_,a⟩:=qR hr (qT hr hO t).1 (qT hr hO t).2 (hO t).1 (hO t).2
  exact a
theorem sL {p:Sig}{r:Rival}(hr:rivalOk p r=true){O:Nat->Int}(hO:∀t,0<=O t/\O t<pw p.Out) (t:Nat):0<=letR p r O t/\letR p r O t<ltd p:=by
 obtain⟨c,d⟩:=qT hr hO t
 obtain⟨_,e,f⟩:=sH hr c d
 obtain⟨b,g⟩:=hO t
 have a:ltd p=pw p.Out * pw p.In:=Int.mul_comm _ _
 unfold letR
 rw[a]
 have h1:(O t+1) * pw p.In<=pw p.Out * pw p.In:=Int.mul_le_mul_of_nonneg_right (by omega) (by omega)
 have h2:0<=O t * pw p.In:=Int.mul_nonneg b (by omega)
 rw[Int.add_mul,Int.one_mul]at h1
 omega
theorem vY {p:Sig}{d:Det}(hd:detOk p d=true){X:Nat->Int}(a:∀t,0<=X t/\X t<ltd p):∀t,0<=runD d X t/\runD d X t<d.Next.length
 |0=>by
  obtain⟨b,_⟩:=dx hd
  show(0:Int)<=0/\(0:Int)<_
  omega
 |t+1=>by
  obtain⟨_,_,_,b⟩:=dx hd
  obtain⟨_,_,_,c,e⟩:=pe b (vY hd a t).1 (vY hd a t).2 (a t).1 (a t).2
  exact⟨c,e⟩
theorem zL {p:Sig}{d:Det}(hd:detOk p d=true){N:Nat}(f:ltd p=N){cs:VC}(l:PR N cs d) (j:∀c∈cs,cz p c=true){X:Nat->Int}(e:∀t,0<=X t/\X t<ltd p){i:Nat}{c:Clause}(g:cs[i]? =some c):∃b,d.Pairs[i]? =some b/\(Sat c X↔Well b.Ask b.Give (runD d X)):=by
 obtain⟨π,hs⟩:=l.sm f j i c g
 obtain⟨k1,k7⟩:=nC (j c (EF g))
 obtain⟨b,n,k⟩:=hs.pair
 have a:=vY hd e
 have hm:∀t,mrun c X t=π (runD d X t):=λt=>by
  induction t with
  |zero=>exact hs.zero.symm
  |succ t m=>
   show mst c (mrun c X t) (X t)=π (tab d.Next (runD d X t) (X t))
   rw[m]
   exact(hs.step _ _ (a t).1 (a t).2 (e t).1 (by rw[← f];exact(e t).2)).symm
 exact⟨b,n,(Ct k1 k7).trans (imp_congr (iL λt=>by rw[hm];exact(k _ (a t).1 (a t).2).1.symm) (iL λt=>by rw[hm];exact(k _ (a t).1 (a t).2).2.symm))⟩
def xsO (d:Det) (n m:Nat) (P:VL) (g:Parity) (pk:VI) (O:Nat->Int):Nat->Int
 |0=>0
 |t+1=>nxR d n m P g pk (xsO d n m P g pk O t) (O t)
section
variable {p:Sig}{d:Det}{n m k:Nat}{A:Arena}{P:VL}{g:Parity}{W:Int->Prop}{pk:VI}(h:Cx d n m k A P g W pk) (h0:wB W 0=true){O:Nat->Int}(hO:∀t,0<=O t/\O t<(k:Int))
include h
theorem wP {x o:Int}{v:Place}(a:idx P x=some v) (ha:v.At<(n:Int)) (b:wB W x=true) (Q:0<=o) (S:o<k):
 (0<=inR9 n m P pk x/\inR9 n m P pk x<m)/\(gI g).own x=true/\(gI g).E x (pkL pk x)/\Par.Rg (Xn P.length) (wB W) true (pkL pk x)/\(gI g).own (pkL pk x)=false/\(n:Int)<=atP P (pkL pk x) /\
 (gI g).E (pkL pk x) (nxR d n m P g pk x o)/\(∃e,idx P (nxR d n m P g pk x o)=some e/\e.At<(n:Int))/\wB W (nxR d n m P g pk x o)=true/\atP P (nxR d n m P g pk x o)=tab d.Next (atP P x) (o * m+inR9 n m P pk x):=by
 have M:Xn P.length x:=⟨(eK a).1,(eK a).2.1⟩
 obtain⟨u,q,r,G,y,H,N,_⟩:=h.state a ha
 obtain⟨C,O,l,A,p⟩:=h.mine M (by rw[u,b])
 obtain⟨_,c,j,i⟩:=N C ((lJ H).1 A)
 have w:pkL pk x=C:=oN O
 have t:inR9 n m P pk x=(c:Int):=by
  unfold inR9
  rw[w,i,show((n+(q * m+c):Nat):Int)-(n:Int)=((q * m+c:Nat):Int) by omega,← Int.natCast_emod,F5,F4,FM j]
 obtain⟨o,rfl⟩:=dy Q
 obtain⟨B,T,f,K,L⟩:=h.mid l y j i
 obtain⟨s,D,_⟩:=wO (L o (by omega))
 obtain⟨E,_⟩:=K _ s
 obtain⟨e,z,_,_⟩:=h.place E
 obtain⟨_,_,_,R,F⟩:=h.cellAt (o:=o) y j (by omega)
 have I:tab d.Next (atP P x) ((o:Int) * m+inR9 n m P pk x)=tab d.Next q ((o * m+c:Nat):Int):=by
  rw[t,eA a,G]
  congr 1
 unfold nxR
 rw[I,w,ey f,t]
 refine⟨⟨by omega,by omega⟩,u,A,⟨l,p.trans b⟩,B,by rw[i];omega,(lJ f).2 s,⟨e,z,?_⟩,?_,D⟩
 .rw[← eA z,D];exact F
 .rw[h.yours l (by rw[B,p,b];simp) ((lJ f).2 s) E,p,b]
include h0 hO
theorem zd:∀t,∃v,idx P (xsO d n m P g pk O t)=some v/\v.At<(n:Int)/\wB W (xsO d n m P g pk O t)=true
 |0=>by
  have a:=h.rg.game.zero
  have h1:=h.n1
  exact⟨⟨0,firstR d.Pairs.length⟩,by show idx P ((0:Nat):Int)=_;rw[bH];exact a,by show(0:Int)<_;omega,h0⟩
 |t+1=>by
  obtain⟨v,i,j,k⟩:=zd t
  obtain⟨_,_,_,_,_,_,_,⟨b,c,e⟩,f,_⟩:=wP h i j k (hO t).1 (hO t).2
  exact⟨b,c,e,f⟩
omit h h0 in
theorem zK {Q:Int->Prop}{F In:VI}{Nx:VV}(f:Ctr P.length m k Q (inR9 n m P pk) (nxR d n m P g pk) F F.length In Nx):∀t,0<=runR ⟨In,Nx⟩ O t/\F[(runR ⟨In,Nx⟩ O t).toNat]? =some (xsO d n m P g pk O t)/\inAt ⟨In,Nx⟩ (runR ⟨In,Nx⟩ O t)=inR9 n m P pk (xsO d n m P g pk O t):=λt=>by
 have j:∀q:Int,∀x,F[q.toNat]? =some x->In[q.toNat]? =some (inR9 n m P pk x)/\∃b,Nx[q.toNat]? =some b/\∀c:Nat,c<k->∃a:Int,b[c]? =some a/\0<=a/\F[a.toNat]? =some (nxR d n m P g pk x c):=λq x i=>by
  obtain⟨G,b,e,o,p,r⟩:=f.tb _ (DX.1 i).1
  rw[i]at e
  cases e
  exact⟨o,b,p,r⟩
 have z:∀t,0<=runR ⟨In,Nx⟩ O t/\F[(runR ⟨In,Nx⟩ O t).toNat]? =some (xsO d n m P g pk O t):=λt=>by
  induction t with
  |zero=>exact⟨Int.le_refl 0,f.zero⟩
  |succ t w=>
   obtain⟨_,b,s,u⟩:=j _ _ w.2
   obtain⟨A,E⟩:=hO t
   obtain⟨a,B,C,D⟩:=u (O t).toNat (by omega)
   have v:runR ⟨In,Nx⟩ O (t+1)=a:=by
    show tab Nx _ _=a
    unfold tab
    rw[o5,o5,s,F6,B,F6]
   rw[v]
   refine⟨C,D.trans ?_⟩
   rw[Int.toNat_of_nonneg A];rfl
 obtain⟨y,l⟩:=z t
 refine⟨y,l,?_⟩
 unfold inAt
 rw[o5,(j _ _ l).1];rfl
theorem vZ (hm:pw p.In=(m:Int)){r:Rival}(hr:∀t,inAt r (runR r O t)=inR9 n m P pk (xsO d n m P g pk O t)):∀t,runD d (letR p r O) t=atP P (xsO d n m P g pk O t)
 |0=>(eA (v:=⟨0,firstR d.Pairs.length⟩) (by show idx P ((0:Nat):Int)=_;rw[bH];exact h.rg.game.zero)).symm
 |t+1=>by
  obtain⟨v,b,c,e⟩:=zd h h0 hO t
  obtain⟨_,_,_,_,_,_,_,_,_,a⟩:=wP h b c e (hO t).1 (hO t).2
  show tab d.Next (runD d _ t) (O t * pw p.In+inAt r (runR r O t))=atP P (nxR d n m P g pk _ (O t))
  rw[vZ hm hr t,hr,hm,a]
theorem Al (hd:detOk p d=true) (hm:pw p.In=(m:Int)){r:Rival}(hr:∀t,inAt r (runR r O t)=inR9 n m P pk (xsO d n m P g pk O t)) (F:∀t,0<=letR p r O t/\letR p r O t<ltd p) (H:∀f∈d.Pairs,(∀b∈f.Ask,b<(n:Int))/\∀b∈f.Give,b<(n:Int)){N:Nat}(G:ltd p=N){cs:VC}(o:PR N cs d) (L:∀c∈cs,cz p c=true):∃c∈cs,¬Sat c (letR p r O):=by
 have e:=zd h h0 hO
 have l:=λt=>wP h (e t).choose_spec.1 (e t).choose_spec.2.1 (e t).choose_spec.2.2 (hO t).1 (hO t).2
 obtain⟨w,f,k,s⟩:=h.odd (q:=true) (π:=alt (xsO d n m P g pk O) λt=>pkL pk (xsO d n m P g pk O t)) (λt=>by
  rcases uP t with ⟨a,rfl⟩|⟨a,rfl⟩
  .obtain⟨_,k1,M,y,_⟩:=l a
   rw[vu,oh]
   obtain⟨v,B,_,T⟩:=e a
   exact⟨⟨⟨(eK B).1,(eK B).2.1⟩,T⟩,M,λ_=>rfl⟩
  .obtain⟨_,_,_,y,Q,_,z,_⟩:=l a
   rw[show 2 * a+1+1=2 * (a+1) by omega,vu,oh]
   exact⟨y,z,λE=>absurd (Q.symm.trans E) (by decide)⟩) (oh _ _ 0) rfl
 obtain⟨C,D⟩:=H f (EF k)
 have u:∀(S:VI),(∀b∈S,b<(n:Int))->∀t,atP P (pkL pk (xsO d n m P g pk O t))∉S:=λS i t K=>by
  obtain⟨_,_,_,_,_,z,_⟩:=l t
  have:=i _ K
  omega
 rw[Bv (x:=xsO d n m P g pk O) (u _ C) (u _ D),← funext (vZ (p:=p) h h0 hO hm hr)]at s
 have j:=(DX.1 k).1
 rw[o.len]at j
 have I:cs[w]? =some cs[w]:=o7 j
 obtain⟨U,A,R⟩:=zL hd G o L F I
 rw[k]at A
 cases A
 exact⟨_,List.getElem_mem j,λi=>s (R.1 i)⟩
end
theorem zU {p:Sig}{d:Det}(hd:detOk p d=true):∀e∈d.Pairs,(∀a∈e.Ask,a<(d.Next.length:Int))/\∀a∈e.Give,a<(d.Next.length:Int):=λx f=>by
 unfold detOk at hd
 simp only[C8]at hd
 have b:=hd.1.2
 unfold pairsOk at b
 rw[C8,Fc]at b
 have:=b.2 x f
 unfold pairOk at this
 rw[C8]at this
 exact⟨λa c=>((St.of this.1).rng a c).2,λa c=>((St.of this.2).rng a c).2⟩
structure Riv (p:Sig) (cs:VC) (d:Det) (r:Rival):Prop where
 s:di p cs=some (d,true)
 i:c8 p cs=some (d,true)
 det:detOk p d=true
 prd:∃N:Nat,ltd p=N/\PR N cs d
 ok:rivalOk p r=true
 le:r.In.length<=32
 sat:∀O:Nat->Int,(∀t,0<=O t/\O t<pw p.Out)->∃c∈cs,¬Sat c (letR p r O)
 at_:∃f:Int->Int,∀O:Nat->Int,(∀t,0<=O t/\O t<pw p.Out)->∀t,runD d (letR p r O) t=f (runR r O t)
theorem xa {p:Sig}(hs:sigOk p=true){cs:VC}(Q:∀c∈cs,Clause.bd c) (w:∀c∈cs,cz p c=true) (h2:cs.length<=2):
 (eV p cs=some (⟨[],[]⟩,false)/\(∃M,io p cs=some (M,true))/\ib p cs=some 0/\fI p cs=some 0) \/
 ∃d r f,eV p cs=some (r,true)/\io p cs=some (⟨[],[]⟩,false)/\ib p cs=some f/\fI p cs=some f/\Riv p cs d r:=by
 obtain⟨d,A,n,m,k,P,g,W,pk,h1,i,S2,S,hn,z⟩:=small hs Q w h2
 have l:=y5 S2 S h1
 have o:=yD S2 S i
 cases a:wB W 0 with
 |false=>
  rw[a]at l o
  left
  obtain⟨q,T,aa,s⟩:=CM (wn:=wonL g.Prio.length W) hs S2.det S2.pb S.cx S.im S.ok a
  have v:=mV S.cx a q T
  have I:=xA S.cx hn z v.nm λx b=>(v.all x b).2
  refine⟨?_,⟨⟨(itM d n m k P g pk q).2.1,(itM d n m k P g pk q).2.2⟩,?_⟩,?_,?_⟩
  .unfold eV
   simp only[i,S.iC,S.iR,S.iW,S.won,Fz,E5,cond_false]
   rw[a];rfl
  .unfold io
   simp only[i,S.iC,S.iR,S.iW,S.won,S.iS,Fz,E5,cond_false]
   rw[a]
   show(bif (b2i false !=0) then _ else _)=_
   rw[show(b2i false !=0)=false from rfl,cond_false,s,Fz,bK]
   unfold stM
   dsimp only
   rw[decide_eq_false (by omega)];rfl
  .unfold ib
   rw[l];rfl
  .unfold fI
   rw[o];rfl
 |true=>
  rw[a]at l o
  right
  obtain⟨U,s,V,e⟩:=vz (wn:=wonL g.Prio.length W) S.sig S.cx S.im S.ok a
  obtain⟨F,D,In,Nx⟩:=U
  dsimp only at e
  have I:=xA S.cx hn z e.nm λx b=>(e.all x b).2
  have X:=e.inl
  have Y:=e.nxl
  have Z:=(DX.1 e.zero).1
  have B:rivalOk p ⟨In,Nx⟩=true:=by
   simp only[rivalOk,C8,decide_eq_true_eq,beq_iff_eq,Fc,dc]
   exact⟨⟨⟨⟨by omega,by omega⟩,by omega⟩,λx b=>by rw[S.im];exact e.inr x b⟩,λC hr=>⟨by rw[S.ok,(e.nxr C hr).1],λx b=>by have:=(e.nxr C hr).2 x b;omega⟩⟩
  have E:ma p cs=some (⟨In,Nx⟩,true):=by
   unfold ma
   simp only[h1,S.sC,S.sR,S.sS,S.won,Fz,E5,cond_false,a]
   show(EO (bQ (eO p (d,true) (g,P,true) ⟨wonL g.Prio.length W,pk⟩) (2 ^ 64) ([0],0,[],[])) _)=_
   rw[s];rfl
  have u:eV p cs=some (⟨In,Nx⟩,true):=by
   unfold eV
   simp only[i,S.iC,S.iR,S.iW,S.won,Fz,E5,cond_false,a]
   show(EO (lN p d g P) _)=_
   unfold lN
   rw[S.iS,Fz,V];rfl
  have R:∃f,ib p cs=some f/\fI p cs=some f:=by
   unfold ib fI
   rw[l,o,Fz,Fz]
   show ∃f,(bif false then _ else _)=_/\(bif false then _ else _)=_
   rw[cond_false,cond_false,E,u]
   exact⟨_,rfl,rfl⟩
  obtain⟨f,G,H⟩:=R
  have j:∀O:Nat->Int,(∀t,0<=O t/\O t<pw p.Out)->∀t,0<=O t/\O t<(k:Int):=λO hO t=>by
   have:=hO t
   rw[S.ok]at this
   exact this
  obtain⟨N,K,L⟩:=S2.prd
  refine⟨d,⟨In,Nx⟩,f,u,?_,G,H,h1,i,S.det,S2.prd,B,by dsimp only;omega,λO hO=>?_,λD=>atP P (F.getD D.toNat 0),λO hO t=>?_⟩
  .unfold io
   simp only[i,S.iC,S.iR,S.iW,S.won,Fz,E5,cond_false]
   rw[a];rfl
  .have b:=zK (j O hO) e
   have y:=zU S.det
   rw[S.cx.dl]at y
   exact Al S.cx a (j O hO) S.det S.im (λt=>(b t).2.2) (sL B hO) y K L w
  .have b:=zK (j O hO) e
   show _=atP P (F.getD _ 0)
   rw[vZ S.cx a (j O hO) S.im (λt=>(b t).2.2) t,o5,(b t).2.1];rfl
theorem xh (w:Word) (n:Int):qE w n=some (wordOk w n):=by
 unfold qE wordOk
 simp only[fk,Fz,andE]
def dq (n z:Int):Int:=z / n
def ds (n z:Int):Int:=z % n
theorem DQ {n m z:Int}(hn:1<=n) (a:0<=z) (b:z<m * n):0<=dq n z/\dq n z<m/\0<=ds n z/\ds n z<n:=
 ⟨Int.ediv_nonneg a (by omega),Int.ediv_lt_of_lt_mul (by omega) b,Int.emod_nonneg _ (by omega),Int.emod_lt_of_pos _ (by omega)⟩
theorem Cw {n x y:Int}(h1:dq n x=dq n y) (h2:ds n x=ds n y):x=y:=by
 have a:=Int.mul_ediv_add_emod x n
 have b:=Int.mul_ediv_add_emod y n
 unfold dq at h1
 unfold ds at h2
 rw[← a,← b,h1,h2]
theorem CF {n q s:Int}(hn:1<=n) (s0:0<=s) (a:s<n):dq n (q * n+s)=q/\ds n (q * n+s)=s:=by
 unfold dq ds
 constructor
 .rw[Int.add_comm,Int.add_mul_ediv_right _ _ (by omega),Int.ediv_eq_zero_of_lt s0 a];omega
 .rw[Int.add_comm,Int.add_mul_emod_self_right,Int.emod_eq_of_lt s0 a]
theorem oB {p:Sig}(hs:sigOk p=true):cJ p=some (pw p.In):=by
 obtain⟨a,_⟩:=db hs
 unfold cJ
 rw[(eZ a).1,Fz,(eZ a).2]
def behindR (r:Rival) (q:Int) (b:VI):Int:=b.foldl (λq a=>tab r.Next q a) q
def lettersR (p:Sig) (r:Rival):Int->VI->VI
 |_,[]=>[]
 |q,o::os=>(o * pw p.In+inAt r q)::lettersR p r (tab r.Next q o) os
theorem oe (p:Sig) (r:Rival):∀(a:VI) (q:Int),(lettersR p r q a).length=a.length
 | [],_=>rfl
 |o::a,q=>by simp[lettersR,oe p r a]
section
variable {p:Sig}{r:Rival}(hr:rivalOk p r=true) (hs:sigOk p=true)
include hr
theorem yw {q:Int}{xs:VI}(b:0<=q) (c:q<r.In.length) (a:xs.all (inR (pw p.Out))=true):0<=behindR r q xs/\behindR r q xs<r.In.length:=by
 induction xs generalizing q with
 |nil=>exact⟨b,c⟩
 |cons x xs f=>
  rw[List.all_cons,C8]at a
  obtain⟨d,e⟩:=dc.1 a.1
  obtain⟨_,_,_,g,i⟩:=qR hr b c d e
  exact f g i a.2
include hs
theorem mP {q:Int}{xs b:VI}(o:0<=q) (s:q<r.In.length) (e:xs.all (inR (pw p.Out))=true) (hl:xs.length+b.length<=1000000):gN xs b p r q=some (b++lettersR p r q xs,behindR r q xs):=by
 rw[Fc]at e
 have D:=eu p.In
 have E:=eu p.Out
 unfold gN
 rw[(zS (f:=gw xs p r) (λ(a:VI×Int) c=>(a.1++[c * pw p.In+inAt r a.2],tab r.Next a.2 c)) (λn a=>0<=a.2/\a.2<r.In.length/\a.1.length=b.length+n) (λB x a d ⟨i,k1,C⟩=>by
  obtain⟨g,l⟩:=dc.1 (e x (EF d))
  obtain⟨F,t,u,j⟩:=qR hr i k1 g l
  obtain⟨v,G,H⟩:=sH hr i k1
  have w:=(DX.1 d).1
  have y:0<=x * pw p.In:=Int.mul_nonneg g (by omega)
  have A:x * pw p.In<=4 * 4:=Int.mul_le_mul (by omega) (by omega) (by omega) (by omega)
  unfold gw
  rw[bH,d,Fz,v,Fz,oB hs,Fz,wr' (z:=x * pw p.In) (by omega) (by omega),wr' (by omega) (by omega),app1 (by omega) rfl,Fz,t,Fz,u]
  exact⟨rfl,j.1,j.2,by simp;omega⟩) (s:=(b,q)) ⟨o,s,rfl⟩).1]
 have k:∀(xs:VI) (q:Int) (b:VI),xs.foldl (λ(a:VI×Int) c=>(a.1++[c * pw p.In+inAt r a.2],tab r.Next a.2 c)) (b,q)=(b++lettersR p r q xs,behindR r q xs):=by
  intro xs
  induction xs with
  |nil=>intro q b;simp[behindR,lettersR]
  |cons x xs m=>intro q b;rw[List.foldl_cons,m];simp[behindR,lettersR]
 rw[k]
 rfl
end
end Go.Proofs.YtfombamjdkihnaaGreat
