/- The parts of a graph: what the program computes. -/
import Derived.Test.YtleekpaohfpooaaGreatL3MD
import Derived.Test.YtleekpaohfpooaaGreatL0MD
import Derived.Test.YtleekpaohfpooaaGreatL2MD
set_option linter.unusedVariables false
set_option linter.unusedSimpArgs false
open Bool renaming and_eq_true → rx, not_false → D4, not_true → DD
open Classical renaming byContradiction → DF
open Int renaming le_refl → DG, lt_irrefl → EE, toNat_natCast → DH
open Go.IntKind renaming wrap → Dr
open List renaming all_eq_true → DI, append_nil → Ey, exists_cons_of_ne_nil → EF, ext_getElem? → CY, filter_cons → DJ, getD_eq_getElem?_getD → bR, getElem?_append_left → CZ, getElem?_append_right → C0, getElem?_eq_getElem → ct, getElem?_eq_none → D8, getElem?_eq_some_iff → Cu, getElem?_map → C3, getElem?_range → Ez, getElem?_replicate → D9, getElem_mem → En, length_append → Cw, length_cons → Cy, length_filter_le → DL, length_map → DM, length_nil → DO, length_replicate → C6, mem_append → CA, mem_cons → CB, mem_cons_of_mem → C9, mem_cons_self → DP, mem_filter → DQ, mem_map → Da, mem_of_getElem? → Db, mem_singleton → CC, mergeSort_perm → EG, nil_append → Er, pairwise_map → EA, range → Ee, replicate → De, take_add_one → DX, take_length → DZ, take_of_length_le → Dh
open Nat renaming le_refl → CK, le_trans → D0, not_lt_zero → D1, zero_add → CO, zero_le → D2
open Option renaming bind → Dl, bind_some → D3, getD_some → EC
open Option.some renaming inj → Ds
namespace Go.Proofs.YtleekpaohfpooaaGreat
open Go Go.Wk Go.Proofs
section
open Classical
section
variable {N:VV}{M:VB}{n:Nat}(g:Gr N M n)
include g
theorem Ak:∃B,cntM (fO N M) N.length 0 (De n [])=some (.inr B)/\B.length=n/\∀a:Int,0<=a->a<n->∃r,idx B a=some r/\∀b,b∈r↔a∈scN N M b:=by
 have hn:=g.le
 obtain⟨B,c,d,e⟩:=ch (f:=fO N M) (λj (B:VV)=>B.length=n/\∀a:Int,0<=a->a<n->∃r,idx B a=some r/\r.length<=j * 10000/\∀b,b∈r↔b<(j:Int)/\a∈scN N M b) N.length (s:=De n []) ⟨by simp,λa l q=>⟨[],by rw[cH l,D9,if_pos (by omega)],by simp,λb=>by
  constructor
  .intro h;cases h
  .rintro⟨h,k⟩
   have:=(eD g.lm (dO.1 k).1).1
   omega⟩⟩ (λj B hj ⟨H,I⟩=>by
  have u:N[j]? =some N[j]:=ct hj
  generalize N[j]=row at u
  obtain⟨U,R⟩:=g.row (j:Int) row (by rw[bT];exact u)
  unfold fO
  rw[bT,u,D3]
  have T:j<n:=by rw[← g.ln];exact hj
  obtain⟨C,O,P,Q⟩:=ch (f:=js M (j:Int) row) (λi (B:VV)=>B.length=n/\∀a:Int,0<=a->a<n->∃r,idx B a=some r/\r.length<=j * 10000+i/\∀b,b∈r↔(b<(j:Int)/\a∈scN N M b)\/(b=(j:Int)/\In M b/\In M a/\a∈row.take i)) row.length (s:=B) ⟨H,λa l q=>by
   obtain⟨r,m,p,o⟩:=I a l q
   exact⟨r,m,D0 p (Nat.le_add_right _ _),λb=>by rw[o];simp⟩⟩ (λi B K ⟨D,w⟩=>by
   have v:row[i]? =some row[i]:=ct K
   generalize row[i]=l at v
   obtain⟨z,S⟩:=R l (Db v)
   have x:row.take (i+1)=row.take i++[l]:=by rw[DX,v];rfl
   have G:¬(In M (j:Int)/\In M l)->∀a:Int,0<=a->a<n->∃r,idx B a=some r/\r.length<=j * 10000+(i+1)/\∀b,b∈r↔(b<(j:Int)/\a∈scN N M b)\/(b=(j:Int)/\In M b/\In M a/\a∈row.take (i+1)):=λL a y A=>by
    obtain⟨r,m,p,o⟩:=w a y A
    refine⟨r,m,by omega,λb=>?_⟩
    rw[o,x]
    constructor
    .rintro(h|⟨h,c,d,e⟩)
     .exact .inl h
     .exact .inr ⟨h,c,d,List.mem_append_left _ e⟩
    .rintro(h|⟨h,c,d,e⟩)
     .exact .inl h
     .rcases CA.1 e with e|e
      .exact .inr ⟨h,c,d,e⟩
      .rw[CC]at e
       exact absurd ⟨h ▸ c,e ▸ d⟩ L
   unfold js
   rw[bT,v,D3,dv (B:=M) (by omega) (by rw[g.lm];omega),D3,dv (B:=M) z (by rw[g.lm];omega)]
   by_cases c:In M (j:Int)
   .by_cases d:In M l
    .obtain⟨r,m,p,o⟩:=w l z S
     obtain⟨B',F,hl⟩:=cS (xs:=B) (i:=l) (r++[(j:Int)]) z (by omega)
     simp only[decide_eq_true c,decide_eq_true d,cond_true,D3,m,app1 (show r.length<=10000000000 by omega) (show Nat.ble 8 1024=true from rfl),F]
     refine⟨_,rfl,by omega,λa y A=>?_⟩
     rw[cV F]
     by_cases t:a=l
     .subst t
      rw[if_pos rfl]
      refine⟨_,rfl,by rw[Cw];simp only[Cy,DO];omega,λb=>?_⟩
      rw[CA,o,CC,x]
      constructor
      .rintro((h|⟨h,c,d,e⟩)|h)
       .exact .inl h
       .exact .inr ⟨h,c,d,List.mem_append_left _ e⟩
       .subst h;exact .inr ⟨rfl,c,d,by simp⟩
      .rintro(h|⟨h,c,d,e⟩)
       .exact .inl (.inl h)
       .exact .inr h
     .rw[if_neg t]
      obtain⟨r,m,p,o⟩:=w a y A
      refine⟨r,m,by omega,λb=>?_⟩
      rw[o,x,CA,CC]
      simp[t]
    .simp only[decide_eq_true c,decide_eq_false d,cond_true,D3,cond_false]
     exact⟨_,rfl,D,G λh=>d h.2⟩
   .simp only[decide_eq_false c,D3,cond_false]
    exact⟨_,rfl,D,G λh=>c h.1⟩)
  rw[O,D3,bU]
  refine⟨_,rfl,P,λa l q=>?_⟩
  obtain⟨r,m,p,o⟩:=Q a l q
  refine⟨r,m,by omega,λb=>?_⟩
  rw[o,DZ]
  constructor
  .rintro(⟨h,k⟩|⟨h,c,d,e⟩)
   .exact⟨by omega,k⟩
   .subst h
    exact⟨by omega,dO.2 ⟨c,d,row,by rw[bT];exact u,e⟩⟩
  .rintro⟨h,k⟩
   by_cases t:b=(j:Int)
   .subst t
    obtain⟨c,d,V,E,e⟩:=dO.1 k
    rw[bT,u]at E
    cases E
    exact .inr ⟨rfl,c,d,e⟩
   .exact .inl ⟨by omega,k⟩)
 refine⟨B,c,d,λa l q=>?_⟩
 obtain⟨r,m,p,o⟩:=e a l q
 refine⟨r,m,λb=>?_⟩
 rw[o]
 refine⟨λh=>h.2,λh=>⟨?_,h⟩⟩
 have:=(eD g.lm (dO.1 h).1).2
 rw[g.ln];exact this
def Many (N:VV) (S:VI):Prop:=1<S.length\/∃a∈S,∃r,idx N a=some r/\a∈r
noncomputable def keepP (N:VV) (P:VV):VV:=(P.filter (λa=>decide (Many N a))).map λa=>a.mergeSort λb c=>decide (b<=c)
theorem oW {B:VV}{Q:Int->VI}(y:B.length=n) (D:∀e v,idx B e=some v->∀I∈v,0<=I/\I<n) (C:∀e v,In M e->idx B e=some v->Q e=v.filter (λI=>decide (In M I)))
 {L:VI} {d0:VB} (hL:L.length<=256) (A:∀e∈L,In M e):
 ∀(k:Nat) (P0:VV) (d:VB) (F:Nat),k<=L.length->P0.length+k<=1000->d.length=n->k<F ->
 ∃P f,cd (dF N M B (L,d0)) F (P0,(k:Int)-1,d)=some (.inr (P0++keepP N P,-1,f))/\Kos Q (In d) ((L.take k).reverse) P
 |_,_,_,0,_,_,_,h=>absurd h (D1 _)
 |0,P0,d,F+1,_,_,hd,_=>⟨[],d,by
  show Dl (dF N M B (L,d0) (P0,((0:Nat):Int)-1,d)) _=_
  have:keepP N []=[]:=rfl
  rw[this,Ey]
  rfl,.nil⟩
 |k+1,P0,d,F+1,hk,hP,hd,hF=>by
  have hn:=g.le
  have o:L[k]? =some L[k]:=ct (by omega)
  generalize L[k]=a at o
  have W:=A a (Db o)
  obtain⟨O,aj⟩:=eD g.lm W
  have ad:(L.take (k+1)).reverse=a::(L.take k).reverse:=by rw[DX,o];simp
  have Y:((k+1:Nat):Int)-1=(k:Int):=by omega
  have R:Dr .i64 ((k:Int)-1)=(k:Int)-1:=wr' (by omega) (by omega)
  rw[ad,Y]
  show ∃P f,Dl (dF N M B (L,d0) (P0,(k:Int),d)) _=_/\_
  by_cases j:In d a
  .obtain⟨P,f,w,u⟩:=oW y D C hL A k P0 d F (by omega) (by omega) hd (by omega)
   have H:dF N M B (L,d0) (P0,(k:Int),d)=some (.inr (.inr (P0,(k:Int)-1,d))):=by
    unfold dF
    dsimp only
    rw[decide_eq_true (show(0:Int)<=(k:Int) by omega),cond_true,bT,o,D3,dv (B:=d) O (by omega),D3,R,decide_eq_true j,cond_true]
   rw[H,D3]
   exact⟨P,f,w,.skip j u⟩
  .obtain⟨b,x,ai,G,s⟩:=xC y g.lm hn D C (2 ^ 64) a [] d W j hd (D2 _) (by have:=kN d;omega)
   have l:a∈b:=(s.mem_iff a).2 ⟨a,by simp,.one j⟩
   have S:0<b.length:=List.length_pos_of_mem l
   have ao:=G.cnt s.nodup s.out
   have an:=kN x
   have T:=G.1
   obtain⟨ah,K⟩:=cF (xs:=N) (i:=a) O (by rw[g.ln];exact aj)
   have Z:(Dl (bif decide (1<(b.length:Int)) then some true else Dl (idx N a) λak=>Dl (bY ak a) λal=>some al) λp=>if p=decide (Many N b) then some () else none)=some ():=by
    by_cases m:1<b.length
    .rw[decide_eq_true (show(1:Int)<(b.length:Int) by omega),cond_true,D3,if_pos]
     exact(decide_eq_true (.inl m)).symm
    .rw[decide_eq_false (show ¬(1:Int)<(b.length:Int) by omega),cond_false,K,D3,cP,D3,D3,if_pos]
     rw[Bool.eq_iff_iff,List.any_eq_true,decide_eq_true_eq]
     constructor
     .rintro⟨c,ag,X⟩
      have:a=c:=by simpa using X
      exact .inr ⟨a,l,ah,K,this ▸ ag⟩
     .rintro(h|⟨e,E,r,V,ae⟩)
      .exact absurd h m
      .have af:e=a:=by
        match b,S,m,l,E with
        | [c],_,_,l,E=>
         rw[CC]at l E
         rw[l,E]
        |c::z::t,_,m,_,_=>simp at m
       subst af
       rw[K]at V
       cases V
       exact⟨e,ae,by simp⟩
   obtain⟨p,ab,U⟩:=Option.bind_eq_some_iff.1 Z
   have hp:p=decide (Many N b):=DF λaa=>by rw[if_neg aa]at U;cases U
   have ac:cA b=some (b.mergeSort λa c=>decide (a<=c)):=by
    unfold cA
    rw[if_pos ⟨S,by omega⟩]
   have H:dF N M B (L,d0) (P0,(k:Int),d)=Dl (bif decide (Many N b) then Dl (appS 24 P0 [b.mergeSort λa c=>decide (a<=c)]) λam=>some am else some P0) λq=>some (.inr (.inr (q,(k:Int)-1,x))):=by
    unfold dF
    dsimp only
    rw[decide_eq_true (show(0:Int)<=(k:Int) by omega),cond_true,bT,o,D3,dv (B:=d) O (by omega),D3,R,decide_eq_false j,cond_false,wH,ai,D3]
    dsimp only
    rw[Er,ac,D3,ab,D3,hp]
   by_cases hm:Many N b
   .have ha:appS 24 P0 [b.mergeSort λa c=>decide (a<=c)]=some (P0++[b.mergeSort λa c=>decide (a<=c)]):=app1 (by omega) rfl
    obtain⟨P,f,w,u⟩:=oW y D C hL A k (P0++[b.mergeSort λa c=>decide (a<=c)]) x F (by omega) (by simp only[Cw,Cy,DO];omega) T (by omega)
    rw[H,decide_eq_true hm,cond_true,ha,D3,D3,D3]
    refine⟨b::P,f,?_,?_⟩
    .have:keepP N (b::P)=(b.mergeSort λa c=>decide (a<=c))::keepP N P:=by
      unfold keepP
      rw[DJ,if_pos (decide_eq_true hm)];rfl
     rw[this]
     rw[List.append_assoc]at w
     exact w
    .refine .step j s ?_
     rw[← G.eq];exact u
   .obtain⟨P,f,w,u⟩:=oW y D C hL A k P0 x F (by omega) (by omega) T (by omega)
    rw[H,decide_eq_false hm,cond_false,D3,D3]
    refine⟨b::P,f,?_,?_⟩
    .have:keepP N (b::P)=keepP N P:=by
      unfold keepP
      rw[DJ,if_neg (by simpa using hm)]
     rw[this];exact w
    .refine .step j s ?_
     rw[← G.eq];exact u
theorem As:mN N M=some (loopsN N M):=by
 have hn:=g.le
 obtain⟨B,av,ax,ac⟩:=Ak g
 have ai:∀a c,c∈rowI' B a↔a∈scN N M c:=λa c=>by
  unfold rowI'
  constructor
  .intro h
   cases e:idx B a with
   |none=>rw[e]at h;cases h
   |some r=>
    rw[e]at h
    obtain⟨G,ab⟩:=cL e
    obtain⟨aM,H,R⟩:=ac a G (by omega)
    rw[e]at H;cases H
    exact(R c).1 h
  .intro h
   obtain⟨G,ab⟩:=eD g.lm (dO.1 h).2.1
   obtain⟨aM,H,R⟩:=ac a G ab
   rw[H];exact(R c).2 h
 have ah:∀a c,c∈rowI' B a->In M a/\In M c:=λa c h=>by
  obtain⟨D,Q,_⟩:=dO.1 ((ai a c).1 h)
  exact⟨Q,D⟩
 have X:∀a o,idx B a=some o->rowI' B a=o:=λa o e=>by unfold rowI';rw[e];rfl
 have aE:∀a o,idx B a=some o->rowI' B a=o.filter (λc=>decide (In M c)):=λa o e=>by
  rw[X a o e]
  symm
  rw[List.filter_eq_self]
  intro c u
  rw[← X a o e]at u
  exact decide_eq_true (ah a c u).2
 have aD:∀a o,idx B a=some o->∀c∈o,0<=c/\c<n:=λa o e c u=>by
  rw[← X a o e]at u
  exact eD g.lm (ah a c u).2
 have hs:∀a o,In M a->idx N a=some o->scN N M a=o.filter (λc=>decide (In M c)):=λa o h e=>by
  unfold scN
  rw[if_pos h,e];rfl
 have h0:∀p,¬In (De n false) p:=λp y=>by
  obtain⟨aP,aS⟩:=eD (n:=n) (by simp) y
  unfold In at y
  rw[cH aP,D9,if_pos (by omega)]at y
  cases y
 have C:In (De n false)=noV:=funext λp=>propext ⟨λh=>h0 p h,λh=>h.elim⟩
 have an:((Ee n).map Int.ofNat).length=n:=by simp
 obtain⟨L,S,ae,au,F⟩:=pK (f:=iu N M) (sc:=scN N M) (M:=M) (n:=n) (c0:=0) ((Ee n).map Int.ofNat) 0 [] (De n false) (λi c aJ d u hd aF _=>by
  have U:i<n:=by have:=(Cu.1 u).1;rwa [an]at this
  have aH:c=(i:Int):=by
   rw[C3,Ez U]at u
   exact(Ds u).symm
  subst aH
  rw[CO]
  unfold iu
  dsimp only
  rw[dv (B:=M) (by omega) (by rw[g.lm];omega),D3,dv (B:=d) (by omega) (by omega)]
  refine⟨λC=>?_,λs x=>?_⟩
  .by_cases s:In M (i:Int)
   .have x:In d (i:Int):=DF λh=>C ⟨s,h⟩
    simp only[decide_eq_true s,decide_eq_true x,cond_true,D3,DD,cond_false]
   .simp only[decide_eq_false s,cond_false,D3]
  .obtain⟨b,ad,e,aI,k⟩:=xC g.ln g.lm hn (λa o e=>(g.row a o e).2) hs (2 ^ 64) (i:Int) aJ d s x hd aF (by have:=kN d;omega)
   refine⟨b,ad,?_,aI,k⟩
   simp only[decide_eq_true s,decide_eq_false x,cond_true,D3,D4,e]) (by simp) (D2 _) (D2 _)
 rw[an]at ae
 rw[C]at F
 have ag:∀a,a∈L->In M a:=λa m=>by
  obtain⟨c,u,w⟩:=(F.mem_iff a).1 m
  have aG:In M c:=by simpa using (DQ.1 u).2
  cases w.snoc_in with
  |inl h=>exact h ▸ aG
  |inr h=>obtain⟨z,aa⟩:=h;exact(dO.1 aa).2.1
 have af:∀a,In M a->a∈L:=λa m=>(F.mem_iff a).2 ⟨a,DQ.2 ⟨by
  obtain⟨G,ab⟩:=eD g.lm m
  obtain⟨i,U⟩:=dw G
  subst U
  exact Da.2 ⟨i,List.mem_range.2 (by omega),rfl⟩,by simpa using m⟩,.one id⟩
 have aA:L.length<=256:=by
  have:=au.cnt F.nodup (λp _=>h0 p)
  have:=kN S
  have:=au.1
  omega
 obtain⟨P,ad,w,ar⟩:=oW g (d0:=S) ax aD (λa o _ e=>aE a o e) aA ag L.length [] (De n false) (2 ^ 64) (CK _) (by simp only[DO];omega) (by simp) (by omega)
 rw[DZ,C]at ar
 obtain⟨O,aK,aL,aR⟩:=yy ai F (λD Q aC=>af D (dO.1 aC).1) noV L.reverse P ar [] (by simp) (λp=>⟨λh=>h.elim,λ⟨q,h,_⟩=>by cases h⟩)
 have I:∀b∈P,∀a∈b,(∀p,p∈b↔Akin (scN N M) a p)/\In M a:=λb j a m=>by
  obtain⟨_,aN,s,_,x⟩:=O b j
  have Z:=(x a).1 m
  refine⟨λp=>by rw[x];exact⟨λh=>Z.symm.trans h,λh=>Z.trans h⟩,?_⟩
  by_cases e:aN=a
  .subst e;exact ag _ (List.mem_reverse.1 s)
  .exact nO (rG Z e).2
 have ak:∀b∈P,∀a∈b,(b.mergeSort λp v=>decide (p<=v))=partG N M a:=λb j a m=>by
  obtain⟨V,_⟩:=O b j
  obtain⟨s,x⟩:=I b j a m
  refine nM (sQ V) (mU _) λz=>?_
  rw[(EG b _).mem_iff,gp]
  exact⟨λh=>⟨(I b j z h).2,(s z).1 h⟩,λh=>(s z).2 h.2⟩
 have aj:∀b∈P,∀a∈b,Many N b↔Far (scN N M) a:=λb j a m=>by
  obtain⟨s,x⟩:=I b j a m
  obtain⟨V,_⟩:=O b j
  constructor
  .rintro(h|⟨c,u,r,W,Y⟩)
   .have:∃z∈b,z≠a:=DF λC=>by
     have:b.length<=[a].length:=oL V λp y=>CC.2 (DF λA=>C ⟨p,y,A⟩)
     simp only[Cy,DO]at this
     omega
    obtain⟨z,aa,A⟩:=this
    exact(rG ((s z).1 aa) (Ne.symm A)).1
   .have am:=(I b j c u).2
    have:Far (scN N M) c:=⟨c,dO.2 ⟨am,am,r,W,Y⟩,.one id⟩
    exact this.akin ((s c).1 u).symm
  .rintro⟨v,aq,aO⟩
   by_cases h:1<b.length
   .exact .inl h
   .have K:v∈b:=(s v).2 ⟨.cons id aq (.one id),aO⟩
    have:v=a:=by
     match b,h,m,K with
     | [D],_,m,K=>rw[CC]at m K;rw[m,K]
     |D::Q::t,h,_,_=>simp at h
    subst this
    obtain⟨_,_,r,W,Y⟩:=dO.1 aq
    exact .inr ⟨v,m,r,W,Y⟩
 have A:∀b∈P,∃a,a∈b:=λb j=>by
  obtain⟨_,a,_,_,h⟩:=O b j
  exact⟨a,(h a).2 (Akin.refl a)⟩
 have al:(keepP N P).mergeSort leI=loopsN N M:=by
  refine xB (λT E=>?_) (λa m=>?_) ?_
  .unfold keepP at E
   obtain⟨b,j,rfl⟩:=Da.1 E
   obtain⟨j,hm⟩:=DQ.1 j
   obtain⟨a,m⟩:=A b j
   exact⟨a,(aj b j a m).1 (of_decide_eq_true hm),ak b j a m⟩
  .rcases aK a (List.mem_reverse.2 (af a (nO m))) with h|⟨b,j,ao⟩
   .exact h.elim
   .unfold keepP
    exact Da.2 ⟨b,DQ.2 ⟨j,decide_eq_true ((aj b j a ao).2 m)⟩,ak b j a ao⟩
  .unfold keepP
   rw[EA]
   refine(aL.filter _).imp λ{b T} h p y ap=>?_
   rw[(EG _ _).mem_iff]at y ap
   exact h p y ap
 have aQ:(keepP N P).length<=1000:=by
  have s:(loopsN N M).length<=n:=by
   unfold loopsN
   rw[DM]
   exact D0 (DL _ _) (D0 (iZ _ _) (by rw[g.lm];exact CK _))
  rw[← al,List.length_mergeSort]at s
  omega
 have aB:((keepP N P).all λl=> !l.isEmpty)=true:=by
  rw[DI]
  intro T E
  unfold keepP at E
  obtain⟨b,j,rfl⟩:=Da.1 E
  obtain⟨a,m⟩:=A b (DQ.1 j).1
  have:=(EG b λp v=>decide (p<=v)).mem_iff.2 m
  cases e:(b.mergeSort λp v=>decide (p<=v)) with
  |nil=>rw[e]at this;cases this
  |cons _ _=>rfl
 have az:Dr .i64 ((L.length:Int)-1)=(L.length:Int)-1:=wr' (by omega) (by omega)
 have ay:cntM (iu N M) n 0 (([]:VI),De n false)=some (.inr (L,S)):=by
  rw[← Er L];exact ae
 have aw:cntM (fO N M) n 0 (De n [])=some (.inr B):=by rw[← av,g.ln]
 unfold mN
 rw[g.ln,dg (by omega) rfl,D3,aw,D3,bU,dg (by omega) rfl,D3,ay,D3,bU,D3]
 dsimp only
 rw[az,w,D3,bU]
 dsimp only
 rw[Er]
 unfold eS
 rw[if_pos ⟨by omega,aB⟩,D3,al]
end
end
section
open Classical
def Lv (sc:Int->VI) (s:Int):Nat->Int->Prop
 |0,k=>k=s
 |t+1,k=>∃a∈sc k,Lv sc s t a
def Dm (sc:Int->VI) (s k:Int) (d:Nat):Prop:=Lv sc s d k/\∀a,a<d->¬Lv sc s a k
section
variable {sc:Int->VI}{s k:Int}
theorem Dm.uniq {d a:Nat}(h:Dm sc s k d) (c:Dm sc s k a):d=a:=by
 have e:=h.2 a
 have f:=c.2 d
 have:¬a<d:=λb=>e b c.1
 have:¬d<a:=λb=>f b h.1
 omega
theorem Lv.min {d:Nat}:Lv sc s d k->∃a,a<=d/\Dm sc s k a:=by
 induction d using Nat.strongRecOn with
 |ind d ih=>
  intro h
  by_cases hm:∃a,a<d/\Lv sc s a k
  .obtain⟨a,c,b⟩:=hm
   obtain⟨e,hf,hd⟩:=ih a c b
   exact⟨e,by omega,hd⟩
  .exact⟨d,CK _,h,λa c b=>hm ⟨a,c,b⟩⟩
theorem Dm.next {d:Nat}(h:Dm sc s k (d+1)):∃a∈sc k,Dm sc s a d:=by
 obtain⟨a,b,f⟩:=h.1
 exact⟨a,b,f,λc g e=>h.2 (c+1) (by omega) ⟨a,b,e⟩⟩
theorem Lv.wy:∀{d:Nat}{k:Int},Lv sc s d k->Wy sc noV k s
 |0,k,h=>by
  have h:k=s:=h
  subst h;exact .one id
 |d+1,k,⟨u,h1,h2⟩=> .cons id h1 (Lv.wy h2)
theorem Wy.lv {k:Int}(w:Wy sc noV k s):∃d,Lv sc s d k:=by
 induction w with
 |one _=>exact⟨0,rfl⟩
 |cons _ a _ b=>
  obtain⟨d,h⟩:=b
  exact⟨d+1,_,a,h⟩
theorem Dm.list {n:Nat}(f:∀i e,e∈sc i->0<=e/\e<(n:Int)):∀{d:Nat}{k:Int},0<=k->k<n->Dm sc s k d->∃l:VI,l.length=d+1/\l.Nodup/\(∀b∈l,0<=b/\b<(n:Int))/\∀b∈l,∃c,c<=d/\Dm sc s b c
 |0,k,k0,k1,h=>⟨[k],rfl,by simp,λb a=>by rw[CC]at a;subst a;exact⟨k0,k1⟩,λb a=>by rw[CC]at a;subst a;exact⟨0,CK _,h⟩⟩
 |d+1,k,k0,k1,h=>by
  obtain⟨t,j,m⟩:=h.next
  obtain⟨u,v⟩:=f k t j
  obtain⟨l,p,q,r,g⟩:=Dm.list f u v m
  refine⟨k::l,by simp[p],List.nodup_cons.2 ⟨λhm=>?_,q⟩,λb a=>?_,λb a=>?_⟩
  .obtain⟨c,o,hd⟩:=g k hm
   have:=hd.uniq h
   omega
  .rcases CB.1 a with c|a
   .subst c;exact⟨k0,k1⟩
   .exact r b a
  .rcases CB.1 a with c|a
   .subst c;exact⟨d+1,CK _,h⟩
   .obtain⟨c,o,hd⟩:=g b a
    exact⟨c,by omega,hd⟩
end
def At (sc:Int->VI) (s:Int) (t:Nat) (k x:Int):Prop:=(x= -1/\∀d,d<=t->¬Lv sc s d k)\/∃d:Nat,x=(d:Int)/\d<=t/\Dm sc s k d
theorem At.neg {sc:Int->VI}{s k x:Int}{t:Nat}(h:At sc s t k x):(x<0↔∀d,d<=t->¬Lv sc s d k):=by
 rcases h with ⟨b,a⟩|⟨d,b,a,c⟩
 .exact⟨λ_=>a,λ_=>by omega⟩
 .exact⟨λh=>by omega,λh=>absurd c.1 (h d a)⟩
theorem At.is {sc:Int->VI}{s k x:Int}{t c:Nat}(f:t<=c) (h:At sc s c k x):(x=(t:Int)↔Dm sc s k t):=by
 rcases h with ⟨e,a⟩|⟨d,e,a,b⟩
 .exact⟨λh=>by omega,λh=>absurd h.1 (a t f)⟩
 .exact⟨λh=>(show d=t by omega) ▸ b,λh=>by have:=b.uniq h;omega⟩
section
variable {N:VV}{M:VB}{n:Nat}(g:Gr N M n)
include g
theorem Ck {s:Int}(hs:In M s):∃F,m9 N M s=some F/\F.length=n/\∀k:Int,0<=k->k<n->∃b,idx F k=some b/\((b= -1/\∀d,¬Lv (scN N M) s d k)\/∃d:Nat,b=(d:Int)/\d<n/\Dm (scN N M) s k d):=by
 have hn:=g.le
 have hl:=g.ln
 have hm:=g.lm
 obtain⟨ap,aW⟩:=eD g.lm hs
 obtain⟨F0,ay,ah⟩:=ch (f:=kF) (λj (F:VI)=>F=De j (-1)) N.length (s:=[]) rfl (λj F hj aE=>by
  subst aE
  unfold kF
  rw[app1 (by rw[C6];omega) rfl,D3]
  exact⟨_,rfl,by rw[List.replicate_succ']⟩)
 have aT:F0.length=n:=by rw[ah,C6,hl]
 obtain⟨F1,ai,aS⟩:=cS (xs:=F0) (i:=s) (0:Int) ap (by omega)
 have h0:∀k:Int,0<=k->k<n->∃b,idx F1 k=some b/\At (scN N M) s 0 k b:=λk u x=>by
  rw[cV ai]
  by_cases m:k=s
  .rw[if_pos m]
   exact⟨0,rfl,.inr ⟨0,rfl,CK _,m,λY h=>absurd h (D1 _)⟩⟩
  .rw[if_neg m,ah,cH u,D9,if_pos (by omega)]
   exact⟨-1,rfl,.inl ⟨rfl,λd hd h=>by
    have:d=0:=by omega
    subst this;exact m h⟩⟩
 have ak:∀{d:Nat} {e:Int},Lv (scN N M) s d e->In M e:=λ{d e} h=>by
  cases d with
  |zero=>
   have h:e=s:=h
   rw[h];exact hs
  |succ d=>
   obtain⟨w,z,_⟩:=h
   exact(dO.1 z).1
 obtain⟨F2,az,aA,aB⟩:=ch (f:=kG N M) (λa (F:VI)=>F.length=n/\∀k:Int,0<=k->k<n->∃b,idx F k=some b/\At (scN N M) s a k b) N.length (s:=F1) ⟨by omega,h0⟩ (λa F aU ⟨ar,au⟩=>by
  obtain⟨G,av,aw,ax⟩:=ch (f:=kH N M (a:Int)) (λj (F:VI)=>F.length=n/\∀k:Int,0<=k->k<n->∃b,idx F k=some b/\(if k<(j:Int) then At (scN N M) s (a+1) k b else At (scN N M) s a k b)) N.length (s:=F) ⟨ar,λk u x=>by
   obtain⟨b,p,t⟩:=au k u x
   exact⟨b,p,by rw[if_neg (by omega)];exact t⟩⟩ (λj F hj ⟨W,X⟩=>by
   have an:N[j]? =some N[j]:=ct hj
   generalize N[j]=row at an
   have E:idx N (j:Int)=some row:=by rw[bT];exact an
   obtain⟨ao,P⟩:=g.row (j:Int) row E
   have aI:∀e:Int,0<=e->e<n->∃b,idx F e=some b/\(b=(a:Int)↔Dm (scN N M) s e a):=λe ad ae=>by
    obtain⟨b,p,t⟩:=X e ad ae
    refine⟨b,p,?_⟩
    by_cases m:e<(j:Int)
    .rw[if_pos m]at t;exact t.is (by omega)
    .rw[if_neg m]at t;exact t.is (CK _)
   obtain⟨b,H,O⟩:=X (j:Int) (by omega) (by omega)
   rw[if_neg (EE _)]at O
   have aj:=dv (B:=M) (v:=(j:Int)) (by omega) (by omega)
   -- the end of the inner loop
   have aH:∃i G,cd (eb N M (a:Int) (j:Int)) (2 ^ 64) (0,F)=some (.inr (i,G))/\G.length=n/\(∀k:Int,k≠(j:Int)->idx G k=idx F k)/\∃V,idx G (j:Int)=some V/\At (scN N M) s (a+1) (j:Int) V:=by
    by_cases T:b<0
    .have aa:=O.neg.1 T
     by_cases R:In M (j:Int)
     .obtain⟨aK,U,Q⟩:=cM (f:=eb N M (a:Int) (j:Int)) (λi (q:Int×VI)=>q.1=(i:Int)/\i<=row.length/\((q.2=F/\∀e∈row.take i,¬Dm (scN N M) s e a)\/(setI F (j:Int) ((a:Int)+1)=some q.2/\∃e∈row,Dm (scN N M) s e a))) (λ_=>False) (λq=>(q.2=F/\∀e∈row,¬Dm (scN N M) s e a)\/(setI F (j:Int) ((a:Int)+1)=some q.2/\∃e∈row,Dm (scN N M) s e a)) row.length (λi q ⟨ag,aR,o⟩=>by
       obtain⟨aV,G⟩:=q
       dsimp only at ag o
       subst ag
       unfold eb
       dsimp only
       rw[E,D3]
       by_cases Z:i<row.length
       .rw[decide_eq_true (show(i:Int)<(row.length:Int) by omega),cond_true]
        rcases o with ⟨o,L⟩|⟨o,L⟩
        .subst o
         have y:row[i]? =some row[i]:=ct Z
         generalize row[i]=e at y
         obtain⟨ad,ae⟩:=P e (Db y)
         obtain⟨K,af,C⟩:=aI e ad ae
         obtain⟨G',aF,_⟩:=cS (xs:=G) (i:=(j:Int)) ((a:Int)+1) (by omega) (by omega)
         rw[H,D3,decide_eq_true T,D3,cond_true,aj,D3,decide_eq_true R,D3,cond_true,D3,bT,y,D3,af,D3]
         have aq:Dr .i64 ((i:Int)+1)=((i+1:Nat):Int):=by rw[wr' (by omega) (by omega)];omega
         have aQ:Dr .i64 ((a:Int)+1)=(a:Int)+1:=wr' (by omega) (by omega)
         by_cases I:K=(a:Int)
         .have ab:(K==(a:Int))=true:=by rw[beq_iff_eq];exact I
          rw[ab,cond_true,D3,aQ,aF,D3,D3,aq]
          exact⟨_,rfl,Z,rfl,by omega,.inr ⟨rfl,e,Db y,C.1 I⟩⟩
         .have ab:(K==(a:Int))=false:=by rw[beq_eq_false_iff_ne];exact I
          rw[ab,cond_false,D3,aq]
          refine⟨_,rfl,Z,rfl,by omega,.inl ⟨rfl,λw z=>?_⟩⟩
          rw[DX,y]at z
          rcases CA.1 z with z|z
          .exact L w z
          .have:w=e:=by simpa using z
           subst this
           exact λh=>I (C.2 h)
        .have aG:idx G (j:Int)=some ((a:Int)+1):=by rw[cV o,if_pos rfl]
         rw[aG,D3,decide_eq_false (by omega),D3,cond_false,D3,cond_false]
         exact⟨_,rfl,.inr ⟨o,L⟩⟩
       .have:i=row.length:=by omega
        subst this
        rw[decide_eq_false (EE _),cond_false,D3,cond_false,D3,cond_false]
        rw[DZ]at o
        exact⟨_,rfl,o⟩) (2 ^ 64) 0 (0,F) (by omega) ⟨rfl,D2 _,.inl ⟨rfl,λe y=>by simp at y⟩⟩ (by omega)
      match aK,Q with
      |.inr (i,G),Q=>
       refine⟨i,G,U,?_⟩
       rcases Q with ⟨o,L⟩|⟨o,e,y,hd⟩
       .dsimp only at o
        subst o
        refine⟨W,λ_ _=>rfl,b,H,.inl ⟨?_,λd hd h=>?_⟩⟩
        .rcases O with ⟨p,_⟩|⟨d,p,_⟩
         .exact p
         .omega
        .by_cases m:d<=a
         .exact aa d m h
         .have:d=a+1:=by omega
          subst this
          obtain⟨w,U,Q⟩:=h
          obtain⟨_,_,r,al,aJ⟩:=dO.1 U
          rw[E]at al
          cases al
          exact L w aJ ⟨Q,λm S aC=>aa (m+1) (by omega) ⟨w,U,aC⟩⟩
       .dsimp only at o
        refine⟨by have:=(oX o).2.2.2;omega,λk hk=>by rw[cV o,if_neg hk],(a:Int)+1,by rw[cV o,if_pos rfl],.inr ⟨a+1,by omega,CK _,⟨e,dO.2 ⟨R,ak hd.1,row,E,y⟩,hd.1⟩,λm S h=>aa m (by omega) h⟩⟩
     .refine⟨0,F,?_,W,λ_ _=>rfl,b,H,.inl ⟨?_,λd hd h=>?_⟩⟩
      .show Dl (eb N M (a:Int) (j:Int) (0,F)) _=_
       unfold eb
       dsimp only
       rw[E,D3,H,D3,decide_eq_true T,aj,decide_eq_false R]
       cases decide ((0:Int)<(row.length:Int)) <;> rfl
      .rcases O with ⟨p,_⟩|⟨d,p,_⟩
       .exact p
       .omega
      .exact R (ak h)
    .refine⟨0,F,?_,W,λ_ _=>rfl,b,H,?_⟩
     .show Dl (eb N M (a:Int) (j:Int) (0,F)) _=_
      unfold eb
      dsimp only
      rw[E,D3,H,D3,decide_eq_false T]
      cases decide ((0:Int)<(row.length:Int)) <;> rfl
     .rcases O with ⟨p,_⟩|⟨d,p,t,aD⟩
      .omega
      .exact .inr ⟨d,p,by omega,aD⟩
   obtain⟨i,G,aL,aM,aN,V,aO,aP⟩:=aH
   unfold kH
   rw[aL,D3,bU]
   refine⟨_,rfl,aM,λk u x=>?_⟩
   dsimp only
   by_cases m:k=(j:Int)
   .subst m
    exact⟨V,aO,by rw[if_pos (by omega)];exact aP⟩
   .rw[aN k m]
    obtain⟨K,af,C⟩:=X k u x
    refine⟨K,af,?_⟩
    by_cases Y:k<(j:Int)
    .rw[if_pos Y]at C;rw[if_pos (by omega)];exact C
    .rw[if_neg Y]at C;rw[if_neg (by omega)];exact C)
  unfold kG
  rw[av,D3,bU]
  refine⟨_,rfl,aw,λk u x=>?_⟩
  obtain⟨b,p,t⟩:=ax k u x
  rw[if_pos (by omega)]at t
  exact⟨b,p,t⟩)
 unfold m9
 rw[ay,D3,bU]
 obtain⟨K,I⟩:=cF (xs:=F0) (i:=s) ap (by omega)
 rw[I,D3,ai,D3,az,D3,bU]
 have am:∀D A,A∈scN N M D->0<=A/\A<(n:Int):=λD A h=>eD g.lm (dO.1 h).2.1
 refine⟨F2,rfl,aA,λk u x=>?_⟩
 obtain⟨b,p,t⟩:=aB k u x
 refine⟨b,p,?_⟩
 rcases t with ⟨D,A⟩|⟨d,D,A,c⟩
 .refine .inl ⟨D,λd h=>?_⟩
  obtain⟨m,_,S⟩:=h.min
  obtain⟨l,ao,P,ac,_⟩:=S.list am u x
  have:=dx n l P ac
  exact A m (by omega) S.1
 .obtain⟨l,ao,P,ac,_⟩:=c.list am u x
  have:=dx n l P ac
  exact .inr ⟨d,D,by omega,c⟩
theorem yT {s:Int}(hs:In M s):∃F,m9 N M s=some F/\jP N F s=some (decide (Far (scN N M) s)):=by
 obtain⟨F,I,U,z⟩:=Ck g hs
 obtain⟨Q,W⟩:=eD g.lm hs
 have hl:=g.ln
 refine⟨F,I,?_⟩
 obtain⟨b,t⟩:=cF (xs:=N) (i:=s) Q (by omega)
 obtain⟨V,D⟩:=g.row s b t
 have K:∀{d:Nat} {a:Int},Lv (scN N M) s d a->In M a:=λ{d a} h=>by
  cases d with
  |zero=>
   have h:a=s:=h
   rw[h];exact hs
  |succ d=>
   obtain⟨w,j,_⟩:=h
   exact(dO.1 j).1
 have A:∀a∈b,∀l,idx F a=some l->(0<=l↔(In M a/\Wy (scN N M) noV a s)):=λa e l o=>by
  obtain⟨x,y⟩:=D a e
  obtain⟨E,G,S⟩:=z a x y
  rw[o]at G
  cases G
  rcases S with ⟨n,p⟩|⟨d,n,p,c⟩
  .constructor
   .intro h;omega
   .rintro⟨_,w⟩
    obtain⟨d,hd⟩:=w.lv
    exact absurd hd (p d)
  .exact⟨λ_=>⟨K c.1,c.1.wy⟩,λ_=>by omega⟩
 obtain⟨P,R,m⟩:=cM (f:=gg N F s) (λi (q:Int)=>q=(i:Int)/\i<=b.length/\∀a∈b.take i,¬(In M a/\Wy (scN N M) noV a s)) (λr=>r=true/\Far (scN N M) s) (λ_=>¬Far (scN N M) s) b.length (λi q ⟨H,T,v⟩=>by
  subst H
  unfold gg
  rw[t,D3]
  by_cases B:i<b.length
  .have e:b[i]? =some b[i]:=ct B
   generalize b[i]=a at e
   have u:=Db e
   obtain⟨x,y⟩:=D a u
   obtain⟨l,o,_⟩:=z a x y
   rw[decide_eq_true (show(i:Int)<(b.length:Int) by omega),cond_true,D3,bT,e,D3,o,D3]
   by_cases h:0<=l
   .rw[decide_eq_true h,cond_true]
    obtain⟨n,p⟩:=(A a u l o).1 h
    exact⟨_,rfl,rfl,a,dO.2 ⟨hs,n,b,t,u⟩,p⟩
   .rw[decide_eq_false h,cond_false]
    refine⟨_,rfl,B,by rw[wr' (by omega) (by omega)];omega,by omega,λw j=>?_⟩
    rw[DX,e]at j
    rcases CA.1 j with j|j
    .exact v w j
    .have:w=a:=by simpa using j
     subst this
     exact λk=>h ((A w u l o).2 k)
  .have:i=b.length:=by omega
   subst this
   rw[decide_eq_false (EE _),cond_false]
   rw[DZ]at v
   refine⟨_,rfl,?_⟩
   rintro⟨E,L,w⟩
   obtain⟨_,n,r,C,O⟩:=dO.1 L
   rw[t]at C
   cases C
   exact v E O ⟨n,w⟩) (2 ^ 64) 0 0 (by omega) ⟨rfl,D2 _,λa e=>by simp at e⟩ (by omega)
 unfold jP
 rw[R,D3]
 match P,m with
 |.inl r,m=>rw[rh,m.1,decide_eq_true m.2]
 |.inr _,m=>rw[bU,decide_eq_false m]
end
theorem Cm {n:Nat}(hn:n<=256) (S:VI):∃M,na (n:Int) S=some M/\M.length=n/\∀b,In M b↔(0<=b/\b<n)/\b∉S:=by
 have p:rng (n:Int)=some ():=by unfold rng;rw[if_pos (by omega)]
 unfold na
 rw[p,D3,Int.sub_zero,DH]
 obtain⟨M,o,e,g⟩:=ch (f:=kI S) (λj (M:VB)=>M.length=j/\∀i:Nat,i<j->M[i]? =some (!decide ((i:Int)∈S))) n (s:=[]) ⟨rfl,λi a=>absurd a (D1 i)⟩ (λj M hj ⟨d,l⟩=>by
  unfold kI
  rw[qz,D3,app1 (by omega) rfl,D3]
  refine⟨_,rfl,by simp[d],λi a=>?_⟩
  by_cases m:i=j
  .subst m;rw[← d];simp
  .rw[CZ (by omega)];exact l i (by omega))
 rw[o,D3,bU]
 refine⟨M,rfl,e,λb=>?_⟩
 constructor
 .intro h
  obtain⟨c,k⟩:=eD e h
  obtain⟨i,a⟩:=dw c
  subst a
  unfold In at h
  rw[bT,g i (by omega)]at h
  exact⟨⟨c,k⟩,by simpa using h⟩
 .rintro⟨⟨c,k⟩,h⟩
  obtain⟨i,a⟩:=dw c
  subst a
  unfold In
  rw[bT,g i (by omega)]
  simp[h]
noncomputable def hitN (N:VV) (M:VB) (S:VI):VI:=S.filter λs=>decide (In M s/\Far (scN N M) s)
theorem zR {N:VV}{n:Nat}(f:N.length=n) (hn:n<=256) (y:∀c r,idx N c=some r->r.length<=10000/\∀a∈r,0<=a/\a<n){p:Pair}(u:St n p.Ask):∃M,na (N.length:Int) p.Give=some M/\M.length=n/\(∀c,In M c↔(0<=c/\c<n)/\c∉p.Give)/\jm N p=some ((hitN N M p.Ask).headD (-1)):=by
 obtain⟨M,l,m,E⟩:=Cm hn p.Give
 have g:Gr N M n:=⟨f,m,hn,y⟩
 refine⟨M,by rw[f];exact l,m,E,?_⟩
 unfold jm
 rw[f,l,D3]
 have D:∀(b:VI) (j:Nat),(∀(i:Nat) a,b[i]? =some a->p.Ask[j+i]? =some a)->cntM (dK N p M) b.length (j:Int) ()=some (match b.filter λs=>decide (In M s/\Far (scN N M) s) with | []=> .inr () | o::_=> .inl o):=λb=>by
  induction b with
  |nil=>exact λj _=>rfl
  |cons a b C=>
   intro j h
   have k:=h 0 a rfl
   obtain⟨G,I⟩:=u.rng a (Db k)
   have v:dK N p M (j:Int) ()=some (if In M a/\Far (scN N M) a then .inl a else .inr (.inr ())):=by
    unfold dK
    have z:p.Ask[j]? =some a:=k
    rw[bT,z,D3,dv (B:=M) G (by omega),D3]
    by_cases d:In M a
    .obtain⟨F,q,t⟩:=yT g d
     rw[decide_eq_true d,cond_true,q,D3,t,D3,D3]
     by_cases hf:Far (scN N M) a
     .rw[decide_eq_true hf,cond_true,if_pos ⟨d,hf⟩]
     .rw[decide_eq_false hf,cond_false,if_neg (λh=>hf h.2)]
    .rw[decide_eq_false d,cond_false,D3,cond_false,if_neg (λh=>d h.1)]
   show Dl (dK N p M (j:Int) ()) _=_
   rw[v,D3,DJ]
   by_cases e:In M a/\Far (scN N M) a
   .rw[if_pos e,if_pos (decide_eq_true e)];rfl
   .rw[if_neg e,if_neg (by simpa using e)]
    exact C (j+1) λi w A=>by
     have:=h (i+1) w (by simpa using A)
     rw[show j+(i+1)=(j+1)+i from by omega]at this
     exact this
 have hk:=D p.Ask 0 (λi a h=>by rw[CO];exact h)
 have x:cntM (dK N p M) p.Ask.length 0 ()=_:=hk
 rw[x,D3]
 show aft _ _ _=some ((p.Ask.filter λs=>decide (In M s/\Far (scN N M) s)).headD (-1))
 cases p.Ask.filter λs=>decide (In M s/\Far (scN N M) s) with
 |nil=>rfl
 |cons o H=>rfl
end
section
open Classical
theorem zt {A B:VB}{n:Nat}(ha:A.length=n) (b:B.length=n) (h:∀a,In A a↔In B a):A=B:=CY λi=>by
 by_cases c:i<n
 .rw[← bT,← bT,dv (B:=A) (by omega) (by omega),dv (B:=B) (by omega) (by omega)]
  congr 1
  exact decide_eq_decide.2 (h _)
 .rw[D8 (by omega),D8 (by omega)]
def mayM (n:Nat) (S:VI):VB:=(Ee n).map λi:Nat=> !decide ((i:Int)∈S)
theorem ku (n:Nat) (S:VI):(mayM n S).length=n:=by simp[mayM]
theorem uC {n:Nat}{S:VI}(v:Int):In (mayM n S) v↔(0<=v/\v<n)/\v∉S:=by
 constructor
 .intro h
  obtain⟨a,c⟩:=eD (ku n S) h
  obtain⟨i,b⟩:=dw a
  subst b
  unfold In mayM at h
  rw[bT,C3,Ez (by omega)]at h
  exact⟨⟨a,c⟩,by simpa using h⟩
 .rintro⟨⟨a,c⟩,h⟩
  obtain⟨i,b⟩:=dw a
  subst b
  unfold In mayM
  rw[bT,C3,Ez (by omega)]
  simp[h]
noncomputable def hitP (N:VV) (p:Pair):VI:=hitN N (mayM N.length p.Give) p.Ask
structure Gn (N:VV) (n:Nat):Prop where
 ln:N.length=n
 le:n<=256
 row:∀v r,idx N v=some r->r.length<=10000/\∀u∈r,0<=u/\u<n
theorem Gn.gr {N:VV}{n:Nat}(g:Gn N n) (S:VI):Gr N (mayM n S) n:=⟨g.ln,ku n S,g.le,g.row⟩
section
variable {N:VV}{n:Nat}(g:Gn N n)
include g
theorem yO {p:Pair}(a:St n p.Ask):jm N p=some ((hitP N p).headD (-1)):=by
 obtain⟨M,_,b,c,d⟩:=zR g.ln g.le g.row a
 rw[d]
 have:M=mayM n p.Give:=zt b (ku _ _) λe=>by rw[c,uC]
 rw[this]
 unfold hitP
 rw[g.ln]
omit g in
theorem y8 {p:Pair}(a:St n p.Ask):Asc (hitP N p):=a.asc.filter _
theorem pL {p:Pair}(z:Int):z∈hitP N p↔z∈p.Ask/\Far (scN N (mayM n p.Give)) z:=by
 unfold hitP hitN
 rw[g.ln,DQ,decide_eq_true_eq]
 exact⟨λ⟨b,_,a⟩=>⟨b,a⟩,λ⟨b,a⟩=>⟨b,nO a,a⟩⟩
theorem yv {w:watch}(d:w.next=N) (S:VI):ga w S=some (mayM n S):=by
 have hn:=g.le
 unfold ga
 rw[d,g.ln,dg (by omega) rfl,D3,C6]
 obtain⟨M,b,e,c⟩:=fill (f:=ek S) (λj=> !decide ((j:Int)∈S)) n (s0:=De n false) (by simp) (λj s hj hs=>by
  unfold ek
  rw[conI,D3])
 rw[b,D3,bU]
 congr 1
 refine CY λi=>?_
 by_cases a:i<n
 .rw[← bT,c i a]
  unfold mayM
  rw[C3,Ez a];rfl
 .rw[D8 (by omega),D8 (by rw[ku];omega)]
theorem yx {w:watch}(z:w.next=N){p:Pair}(E:St n p.Ask):gc w p=some (hitP N p):=by
 have hn:=g.le
 have I:=g.gr p.Give
 unfold gc
 rw[yv g z,D3,z,As I,D3]
 have M:∀a∈loopsN N (mayM n p.Give),a.length<=256:=λa b=>by
  unfold loopsN at b
  obtain⟨r,_,rfl⟩:=Da.1 b
  unfold partG
  have:=iZ (mayM n p.Give) (mayM n p.Give).length
  rw[ku]at this
  exact D0 (DL _ _) (by rw[ku];omega)
 have O:(loopsN N (mayM n p.Give)).length<=256:=by
  unfold loopsN
  rw[DM]
  have:=iZ (mayM n p.Give) (mayM n p.Give).length
  rw[ku]at this
  exact D0 (DL _ _) (by rw[ku];omega)
 obtain⟨s,m,c,W⟩:=ch (f:=em p (loopsN N (mayM n p.Give))) (λj (s:VI)=>s=((loopsN N (mayM n p.Give)).take j).flatMap (λa=>a.filter λd=>decide (d∈p.Ask))/\s.length<=j * 256) (loopsN N (mayM n p.Give)).length (s:=[]) ⟨rfl,by simp⟩ (λj s hj ⟨C,D⟩=>by
  have b:(loopsN N (mayM n p.Give))[j]? =some (loopsN N (mayM n p.Give))[j]:=ct hj
  generalize(loopsN N (mayM n p.Give))[j]=a at b
  have X:=M a (Db b)
  obtain⟨q,t,e,v⟩:=ch (f:=en p a) (λi (q:VI)=>q=s++(a.take i).filter (λd=>decide (d∈p.Ask))/\q.length<=j * 256+i) a.length (s:=s) ⟨by simp,D0 D (Nat.le_add_right _ _)⟩ (λi q K ⟨x,V⟩=>by
   have o:a[i]? =some a[i]:=ct K
   generalize a[i]=d at o
   unfold en
   rw[bT,o,D3,conI,D3,DX,o]
   by_cases h:d∈p.Ask
   .rw[decide_eq_true h,cond_true,app1 (by omega) rfl,D3,D3]
    exact⟨_,rfl,by rw[x];simp[List.filter_append,h],by simp;omega⟩
   .rw[decide_eq_false h,cond_false,D3]
    exact⟨_,rfl,by rw[x];simp[List.filter_append,h],by omega⟩)
  unfold em
  rw[bT,b,D3,t,D3,bU]
  rw[DZ]at e
  refine⟨_,rfl,?_,by omega⟩
  rw[e,C,DX,b,List.flatMap_append]
  simp)
 rw[DZ]at c
 rw[m,D3,bU]
 have Q:s.Nodup:=by
  rw[c]
  unfold loopsN
  rw[List.flatMap_map,List.Nodup,List.pairwise_flatMap]
  refine⟨λr _=>?_,?_⟩
  .exact List.Pairwise.filter _ (je (mU r))
  .have G:Asc ((cU (mayM n p.Give) (mayM n p.Give).length).filter λr=>decide (Lead (scN N (mayM n p.Give)) r)):=(po _ _).filter _
   refine G.imp_of_mem λ{B U} ha H F d o A S u=>?_
   subst u
   have L:=of_decide_eq_true (DQ.1 H).2
   have t:=(gp.1 (DQ.1 o).1).2
   have e:=(gp.1 (DQ.1 S).1).2
   exact L.2 B F (t.trans e.symm)
 have P:∀l,l∈s↔l∈hitP N p:=λl=>by
  rw[c,List.mem_flatMap,pL g]
  constructor
  .rintro⟨a,b,T⟩
   obtain⟨m,c⟩:=DQ.1 T
   unfold loopsN at b
   obtain⟨r,R,rfl⟩:=Da.1 b
   have hl:=of_decide_eq_true (DQ.1 R).2
   exact⟨of_decide_eq_true c,hl.1.akin (gp.1 m).2⟩
  .rintro⟨m,c⟩
   refine⟨partG N (mayM n p.Give) l,?_,DQ.2 ⟨gp.2 ⟨nO c,Akin.refl l⟩,decide_eq_true m⟩⟩
   obtain⟨q,t,e,v⟩:=sq c
   unfold loopsN
   exact Da.2 ⟨_,DQ.2 ⟨cK.2 (nO v.1),decide_eq_true v⟩,(vZ e).symm⟩
 have y:(s.mergeSort λd A=>decide (d<=A))=hitP N p:=nM (sQ Q) (y8 E) λl=>by rw[(EG s _).mem_iff,P]
 have hs:cA s=some (hitP N p):=by
  unfold cA
  by_cases h:0<s.length
  .have hm:(loopsN N (mayM n p.Give)).length * 256<=256 * 256:=Nat.mul_le_mul_right _ O
   rw[if_pos ⟨h,by omega⟩,y]
  .have u:s=[]:=List.length_eq_zero_iff.1 (by omega)
   rw[if_neg (λk=>h k.1),if_pos (by omega)]
   rw[← y,u,List.mergeSort_nil]
 rw[hs];rfl
end
noncomputable def brkN (N:VV) (ps:VP):Nat->VI
 |0=>[]
 |j+1=>brkN N ps j++(match ps[j]? with | some p=>if hitP N p=[] then[] else[(j:Int)] | none=>[])
theorem oD (N:VV) (ps:VP) (j:Nat):brkN N ps (j+1)=brkN N ps j++(match ps[j]? with | some p=>if hitP N p=[] then[] else[(j:Int)] | none=>[]):=rfl
theorem rH (N:VV) (ps:VP):∀j,(brkN N ps j).length<=j
 |0=>CK _
 |j+1=>by
  have:=rH N ps j
  rw[oD,Cw]
  have:(match ps[j]? with | some p=>if hitP N p=[] then[] else[(j:Int)] | none=>[]:VI).length<=1:=by
   cases ps[j]? with
   |none=>simp
   |some p=>dsimp only;split <;> simp
  omega
theorem vt (N:VV) (ps:VP):∀(j:Nat) (z:Int),z∈brkN N ps j↔∃i:Nat,i<j/\z=(i:Int)/\∃p,ps[i]? =some p/\hitP N p≠[]
 |0,z=>by simp[brkN]
 |j+1,z=>by
  rw[oD,CA,vt N ps j]
  constructor
  .rintro(⟨i,e,b⟩|h)
   .exact⟨i,by omega,b⟩
   .cases a:ps[j]? with
    |none=>rw[a]at h;cases h
    |some p=>
     rw[a]at h
     dsimp only at h
     by_cases hp:hitP N p=[]
     .rw[if_pos hp]at h;cases h
     .rw[if_neg hp,CC]at h
      exact⟨j,by omega,h,p,a,hp⟩
  .rintro⟨i,e,b,p,c,d⟩
   by_cases a:i=j
   .subst a
    right
    rw[c]
    dsimp only
    rw[if_neg d,CC]
    exact b
   .exact .inl ⟨i,by omega,b,p,c,d⟩
section
variable {N:VV}{n:Nat}(g:Gn N n){ps:VP}(hp:∀p∈ps,St n p.Ask) (hl:ps.length<=4)
include g hp hl
theorem yr {w:watch}(e:w.next=N) (b:w.pairs=ps):gT w=some (brkN N ps ps.length):=by
 obtain⟨s,c,d⟩:=ch (f:=eE w) (λj s=>s=brkN N ps j) ps.length (s:=[]) rfl (λj s hj hs=>by
  subst hs
  have a:ps[j]? =some ps[j]:=ct hj
  generalize ps[j]=p at a
  have i:=rH N ps j
  unfold eE
  rw[b,bT,a,D3,yx g e (hp p (Db a)),D3]
  rw[oD,a]
  dsimp only
  by_cases h:hitP N p=[]
  .rw[h,if_pos rfl,Ey]
   exact⟨_,rfl,rfl⟩
  .have:0<(hitP N p).length:=List.length_pos_iff.2 h
   rw[decide_eq_true (by omega),cond_true,app1 (by omega) rfl,if_neg h]
   exact⟨_,rfl,rfl⟩)
 unfold gT
 rw[b,c,D3,bU,d]
theorem zQ:∃q,cd (gu (N,ps,true)) (2 ^ 64) ([],0)=some (.inr (brkN N ps ps.length,q)):=by
 obtain⟨t,u,b⟩:=cM (f:=gu (N,ps,true)) (λj (s:VI×Int)=>s.2=(j:Int)/\j<=ps.length/\s.1=brkN N ps j) (λ_=>False) (λs=>s.1=brkN N ps ps.length) ps.length (λj s ⟨l,v,m⟩=>by
  obtain⟨o,i⟩:=s
  dsimp only at l m
  subst l m
  unfold gu
  dsimp only
  rw[cond_true,D3]
  by_cases k:j<ps.length
  .have c:ps[j]? =some ps[j]:=ct k
   generalize ps[j]=p at c
   have n:=hp p (Db c)
   have w:=rH N ps j
   rw[decide_eq_true (show(j:Int)<(ps.length:Int) by omega),cond_true,bT,c,D3,yO g n,D3,wr' (by omega) (by omega)]
   have a:=oD N ps j
   rw[c]at a
   dsimp only at a
   cases e:hitP N p with
   |nil=>
    rw[e,if_pos rfl,Ey]at a
    refine⟨_,rfl,k,by dsimp only;omega,by omega,a.symm⟩
   |cons d x=>
    have r:0<=d:=by
     have:d∈hitP N p:=by rw[e];simp
     exact(n.rng d ((pL g d).1 this).1).1
    rw[e,if_neg (by simp)]at a
    rw[List.headD_cons,decide_eq_true r,cond_true,app1 (by omega) rfl]
    exact⟨_,rfl,k,by dsimp only;omega,by omega,a.symm⟩
  .have:j=ps.length:=by omega
   subst this
   rw[decide_eq_false (EE _),cond_false]
   exact⟨_,rfl,rfl⟩) (2 ^ 64) 0 ([],0) (by omega) ⟨rfl,D2 _,rfl⟩ (by omega)
 match t,b with
 |.inr (o,q),b=>
  have b:o=brkN N ps ps.length:=b
  exact⟨q,by rw[u,b]⟩
end
structure AK (p:Sig) (m:Machine) (cs:VC) (n k:Nat) (D:Det) (K:List Key) (w:watch):Prop where
 hs:sigOk p=true
 hm:machOk p m=true
 hc:dB p cs=true
 ln:ltd p=((n:Nat):Int)
 kn:pw p.In=((k:Nat):Int)
 pr:PR n cs D
 hd:detOk p D=true
 pl:D.Pairs.length=cs.length
 wk:WK p m D k K w
theorem AK.gn {p:Sig}{m:Machine}{d:VC}{n k:Nat}{D:Det}{K:List Key}{w:watch}(h:AK p m d n k D K w):Gn w.next K.length:=⟨h.wk.prod.rl,h.wk.le,λu r a=>by
 obtain⟨g,_⟩:=cL a
 rw[cH g]at a
 obtain⟨q,t,s,f⟩:=h.wk.prod.row _ r a
 have o:=gG p.In
 have hk:=h.kn
 refine⟨by omega,λv e=>?_⟩
 obtain⟨i,b⟩:=List.getElem?_of_mem e
 have l:=(Cu.1 b).1
 obtain⟨x,c,y,j⟩:=f i (by omega)
 rw[b]at c
 cases c
 have:=(Cu.1 j).1
 omega⟩
theorem AK.ps {p:Sig}{m:Machine}{a:VC}{n k:Nat}{D:Det}{K:List Key}{w:watch}(h:AK p m a n k D K w):w.pairs.length=a.length/\w.pairs.length<=4/\∀b∈w.pairs,St K.length b.Ask:=by
 obtain⟨_,_,c,_⟩:=dC h.hd
 have:=h.pl
 rw[h.wk.pairs,DM]
 refine⟨h.pl,c,λb d=>?_⟩
 obtain⟨e,_,rfl⟩:=Da.1 d
 show St K.length (partN K e.Ask K.length)
 rw[oO _ _ _ (CK _)]
 exact xi _ _ _ _
theorem yl (p:Sig) (m:Machine){a:VC}(r:∀c∈a,Clause.bd c):(jM p m a=some ([],[],false)/\iY p m a=some (none,false)/\(sigOk p=true->machOk p m=true->dB p a=true->2<a.length\/∃n k D,ltd p=((n:Nat):Int)/\pw p.In=((k:Nat):Int)/\PR n a D/\cO p a=some (D,true)/\ManyK m D (pw p.In) k)) \/
 ∃n k D K w,AK p m a n k D K w/\jM p m a=some (w.next,w.pairs,true)/\iY p m a=some (some w,true):=by
 unfold jM iY
 rw[lG,D3]
 rcases pA p r with ⟨d,e,q⟩|⟨hs,g,n,D,hn,E,o,hd,hl,d,e⟩
 .left
  rw[d,e]
  cases hs:sigOk p with
  |false=>exact⟨rfl,rfl,λh=>by cases h⟩
  |true=>
   rw[lC hs]
   cases machOk p m <;> exact⟨rfl,rfl,λ_ _ g=> .inl (q hs g)⟩
 .have s:∀b∈D.Pairs,b.Ask.length<=1000000000/\b.Give.length<=1000000000:=λb t=>by
   obtain⟨A,B,_,_⟩:=dC hd
   have f:=hd
   unfold detOk at f
   simp only[rx]at f
   have hp:=f.1.2
   unfold pairsOk at hp
   rw[rx,DI]at hp
   have:=hp.2 b t
   unfold pairOk at this
   rw[rx]at this
   have x:=(St.of this.1).len
   have y:=(St.of this.2).len
   omega
  rw[d,e,hs,lC hs]
  simp only[DD,cond_false,D3]
  unfold oT
  rw[sE,hs,Bool.true_and,kv hs s,hd]
  cases hm:machOk p m with
  |false=>exact .inl ⟨rfl,rfl,λ_ h=>by cases h⟩
  |true=>
   have F:=gG p.In
   obtain⟨k,hk⟩:=dw (z:=pw p.In) (by omega)
   simp only[DD,cond_false,D3]
   rcases tx hs hm hd hk with ⟨i,j,l⟩|⟨C,w,K,i,j,l,u,_,v⟩
   .left
    rw[i,j]
    exact⟨rfl,rfl,λ_ _ _=> .inr ⟨n,k,D,hn,hk,o,rfl,l⟩⟩
   .right
    refine⟨n,k,D,K,w,⟨hs,hm,g,hn,hk,o,hd,hl,v⟩,?_,?_⟩
    .rw[i]
     simp only[D3,DD,cond_false,l,bU,u]
    .rw[j];rfl
theorem wM (p:Sig) (m:Machine){a:VC}{n k:Nat}{D:Det}{K:List Key}{w:watch}(h:AK p m a n k D K w) (b:jM p m a=some (w.next,w.pairs,true)):lO p m a=some (brkN w.next w.pairs w.pairs.length):=by
 obtain⟨q,c⟩:=zQ h.gn h.ps.2.2 h.ps.2.1
 unfold lO
 rw[b,D3,c,D3,bU]
end
def Eg (N:VV) (v i x:Int):Prop:=∃a,idx N v=some a/\idx a i=some x
theorem Eg.uniq {N:VV}{v i x c:Int}:Eg N v i x->Eg N v i c->x=c:=λ⟨r,d,e⟩ ⟨f,a,b⟩=>by
 rw[d]at a;cases a
 rw[e]at b;cases b
 rfl
def Way (N:VV) (M:VB):Int->VI->Int->Prop
 |v,[],u=>u=v
 |v,i::w,u=>∃a,Eg N v i a/\In M a/\Way N M a w u
theorem Way.snoc {N:VV}{M:VB}:∀{w:VI}{v u i x:Int},Way N M v w u->Eg N u i x->In M x->Way N M v (w++[i]) x
 | [],v,u,i,x,h,e,hx=>by
  have h:u=v:=h
  subst h
  exact⟨x,e,hx,rfl⟩
 |j::w,v,u,i,x,⟨y,h1,h2,h3⟩,e,hx=>⟨y,h1,h2,h3.snoc e hx⟩
theorem Way.uniq {N:VV}{M:VB}:∀{w:VI}{v u a:Int},Way N M v w u->Way N M v w a->u=a
 | [],v,u,a,h,b=>by
  have h:u=v:=h
  have b:a=v:=b
  rw[h,b]
 |j::w,v,u,a,⟨y,h1,h2,h3⟩,⟨y',h1',h2',h3'⟩=>by
  have:=h1.uniq h1'
  subst this
  exact h3.uniq h3'
def lexL:VI->VI->Prop
 |a::s,b::t=>a<b\/(a=b/\lexL s t)
 |_,_=>False
theorem lexL.trans:∀{a b c:VI},lexL a b->lexL b c->lexL a c
 | [],_,_,h,_=>by cases ‹VI› <;> exact h.elim
 |_::_,[],_,h,_=>h.elim
 |_::_,_::_,[],_,h=>h.elim
 |x::a,y::b,z::c,h,d=>by
  rcases h with h|⟨h,k⟩
  .rcases d with d|⟨d,e⟩
   .exact .inl (by omega)
   .exact .inl (by omega)
  .rcases d with d|⟨d,e⟩
   .exact .inl (by omega)
   .exact .inr ⟨by omega,k.trans e⟩
theorem lexL.irr:∀{a:VI},¬lexL a a
 | [],h=>h
 |x::a,h=>by
  rcases h with h|⟨_,k⟩
  .omega
  .exact k.irr
theorem lexL.app {x c:Int}:∀{a b:VI},lexL a b->lexL (a++[x]) (b++[c])
 | [],b,h=>by cases b <;> exact h.elim
 |_::_,[],h=>h.elim
 |p::a,q::b,h=>by
  rcases h with h|⟨h,k⟩
  .exact .inl h
  .exact .inr ⟨h,k.app⟩
theorem lexL.last {i j:Int}(h:i<j):∀a:VI,lexL (a++[i]) (a++[j])
 | []=> .inl h
 |p::a=> .inr ⟨rfl,lexL.last h a⟩
def slt (a b:VI):Prop:=a.length<b.length\/(a.length=b.length/\lexL a b)
def sle (a b:VI):Prop:=a=b\/slt a b
theorem slt.trans {a b c:VI}(h:slt a b) (d:slt b c):slt a c:=by
 rcases h with h|⟨h,k⟩
 .rcases d with d|⟨d,e⟩
  .exact .inl (by omega)
  .exact .inl (by omega)
 .rcases d with d|⟨d,e⟩
  .exact .inl (by omega)
  .exact .inr ⟨by omega,k.trans e⟩
theorem slt.irr {a:VI}(h:slt a a):False:=by
 rcases h with h|⟨h,k⟩
 .omega
 .exact k.irr
theorem slt.app {a b:VI}{x c:Int}(h:slt a b):slt (a++[x]) (b++[c]):=by
 rcases h with h|⟨h,k⟩
 .exact .inl (by simp only[Cw,Cy,DO];omega)
 .exact .inr ⟨by simp[h],k.app⟩
theorem slt.last {i j:Int}(h:i<j) (a:VI):slt (a++[i]) (a++[j]):= .inr ⟨by simp,lexL.last h a⟩
theorem sle.trans {a b c:VI}(h:sle a b) (d:sle b c):sle a c:=by
 rcases h with rfl|h
 .exact d
 .rcases d with rfl|d
  .exact .inr h
  .exact .inr (h.trans d)
theorem sle.anti {a b:VI}(h:sle a b) (c:sle b a):a=b:=by
 rcases h with rfl|h
 .rfl
 .rcases c with rfl|c
  .rfl
  .exact(h.trans c).irr.elim
theorem sle.slt {a b c:VI}(h:sle a b) (d:slt b c):slt a c:=by
 rcases h with rfl|h
 .exact d
 .exact h.trans d
theorem sle.app {a b:VI}(x:Int) (h:sle a b):sle (a++[x]) (b++[x]):=by
 rcases h with rfl|h
 .exact .inl rfl
 .exact .inr h.app
theorem sle.cons {a b:VI}(x:Int) (h:sle a b):sle (x::a) (x::b):=by
 rcases h with rfl|h|⟨h,k⟩
 .exact .inl rfl
 .exact .inr (.inl (by simp only[Cy];omega))
 .exact .inr (.inr ⟨by simp only[Cy,h],.inr ⟨rfl,k⟩⟩)
def LeastW (N:VV) (M:VB) (v u:Int) (w:VI):Prop:=w≠[]/\Way N M v w u/\∀a,a≠[]->Way N M v a u->sle w a
theorem LeastW.uniq {N:VV}{M:VB}{v u:Int}{w b:VI}(h:LeastW N M v u w) (a:LeastW N M v u b):w=b:=(h.2.2 b a.1 a.2.1).anti (a.2.2 w h.1 h.2.1)
theorem Lv.way {N:VV}{M:VB}{s:Int}:∀{d:Nat}{k:Int},Lv (scN N M) s d k->∃w:VI,w.length=d/\Way N M k w s
 |0,k,h=>⟨[],rfl,(show k=s from h).symm⟩
 |d+1,k,⟨u,h1,h2⟩=>by
  obtain⟨w,f,g⟩:=Lv.way h2
  obtain⟨_,c,e,b,hm⟩:=dO.1 h1
  obtain⟨i,a⟩:=List.getElem?_of_mem hm
  exact⟨(i:Int)::w,by simp[f],u,⟨e,b,by rw[bT];exact a⟩,c,g⟩
theorem Way.lv {N:VV}{M:VB}{s:Int}:∀{w:VI}{k:Int},In M k->Way N M k w s->Lv (scN N M) s w.length k
 | [],k,_,h=>(show s=k from h).symm
 |i::w,k,hk,⟨x,⟨row,hr,hx⟩,hm,h⟩=>⟨x,dO.2 ⟨hk,hm,row,hr,by
  obtain⟨b,_,a⟩:=eu hx
  exact Db a⟩,Way.lv hm h⟩
theorem Eg.tab {N:VV}{v i x:Int}(h:Eg N v i x):tab N v i=x:=by
 obtain⟨f,a,b⟩:=h
 obtain⟨g,_,d⟩:=eu a
 obtain⟨e,_,c⟩:=eu b
 unfold Go.Proofs.YtleekpaohfpooaaGreat.tab
 rw[bR (l:=N),d,EC,bR,c,EC]
theorem zz {k i:Nat}(h:i<k):(nums k)[i]? =some (i:Int):=by
 unfold nums
 rw[C3,Ez h];rfl
section
variable {p:Sig}{m:Machine}{d:Det}{k:Nat}{K:List Key}{w:watch}(h:WK p m d k K w)
include h
theorem Ab {M:VB}(p:∀a:Int,0<=a->a<K.length->In M a):∀(q:Nat),q<K.length->∃R,Way w.next M 0 R (q:Int):=λq=>by
 induction q using Nat.strongRecOn with
 |ind q ih=>
  intro s
  have b:K[q]? =some K[q]:=ct s
  rcases h.prod.src q _ b with rfl|⟨j,f,a,g,i,k,l,m⟩
  .exact⟨[],rfl⟩
  .obtain⟨R,r⟩:=ih j g i
   have x:=h.prod.rl
   have e:w.next[j]? =some w.next[j]:=ct (by omega)
   obtain⟨_,y,d,n⟩:=h.prod.row j _ e
   rw[k]at d;cases d
   obtain⟨t,u,z,c⟩:=n f l
   rw[← m,← b]at c
   have v:=(List.getElem?_inj (by have:=(Cu.1 (c.trans b)).1;exact this) h.prod.nod).1 c
   have o:t=(q:Int):=by omega
   subst o
   exact⟨R++[(f:Int)],r.snoc ⟨_,by rw[bT];exact e,by rw[bT];exact u⟩ (p _ (by omega) (by omega))⟩
theorem yi {v i j:Int}(hE:Eg w.next v i j){u:Key}(d:K[v.toNat]? =some u):0<=i/\i<k/\tab w.letters v i=tab m.Out u.1 i * pw p.In+i/\∃l:Key,K[j.toNat]? =some l/\l.1=tab m.Next u.1 i:=by
 obtain⟨o,a,b⟩:=hE
 obtain⟨g,_⟩:=cL a
 obtain⟨e,s⟩:=cL b
 rw[cH g]at a
 obtain⟨t,x,f,n⟩:=h.prod.row _ o a
 rw[d]at f;cases f
 obtain⟨i,rfl⟩:=dw e
 have c:i<k:=by omega
 obtain⟨y,q,z,r⟩:=n i c
 rw[bT,q]at b
 cases b
 refine⟨e,by omega,?_,_,r,rfl⟩
 have hl:=h.let_.2 _ u d
 have:Eg w.letters v (i:Int) (letW m (pw p.In) u i):=⟨_,by rw[cH g];exact hl,by rw[bT,C3,zz c];rfl⟩
 exact this.tab
end
section
variable {p:Sig}{m:Machine}{D:Det}{k:Nat}{K:List Key}{w:watch}(h:WK p m D k K w) (hm:machOk p m=true) (hk:pw p.In=(k:Int)){n:Nat}(hn:ltd p=n)
include h hm hk hn
theorem yj {v i x:Int}(j:0<=v) (k:v<K.length) (hE:Eg w.next v i x):0<=i/\i<pw p.In/\(0<=x/\x<K.length)/\0<=tab w.letters v i/\tab w.letters v i<n/\tab w.letters v i=tab m.Out (keyAt K v).1 i * pw p.In+i/\(keyAt K x).2=tab D.Next (keyAt K v).2 (tab w.letters v i)/\0<=(keyAt K v).2/\(keyAt K v).2<D.Next.length:=by
 have d:=jV j k
 obtain⟨c,o,a,_⟩:=yi h hE d
 obtain⟨e,f,g⟩:=qk h.prod j k c o
 rw[hE.tab]at e f g
 obtain⟨_,_,s,u,q⟩:=dm hm
 have b:=h.kin _ (Db d)
 have B:=gG p.In
 have C:=gG p.Out
 obtain⟨E,y,z,r,A⟩:=mJ q b.1 (by omega) c (by omega)
 have t:0<=tab m.Out (keyAt K v).1 i * pw p.In:=Int.mul_nonneg r (by omega)
 have l:(tab m.Out (keyAt K v).1 i+1) * pw p.In<=pw p.Out * pw p.In:=Int.mul_le_mul (by omega) (by omega) (by omega) (by omega)
 have hl:pw p.In * pw p.Out=(n:Int):=hn
 rw[Int.add_mul,Int.one_mul,Int.mul_comm (pw p.Out),hl]at l
 refine⟨c,by omega,⟨e,f⟩,by rw[a];omega,by rw[a];omega,a,?_,b.2.2.1,b.2.2.2⟩
 rw[g,a]
 rfl
end
def stP (p:Sig) (m:Machine) (c:Clause) (v:Key) (i:Int):Key:=(tab m.Next v.1 i,mst c v.2 (tab m.Out v.1 i * pw p.In+i))
def RunP (p:Sig) (m:Machine) (c:Clause) (G:VI):Key->VI->Key->Prop
 |v,[],u=>u=v
 |v,i::R,u=>0<=i/\i<pw p.In/\(stP p m c v i).2∉G/\RunP p m c G (stP p m c v i) R u
def Cnd (p:Sig) (m:Machine) (c:Clause):Prop:=∃(a:Key) (R Q:VI),RunP p m c [] (0,0) R a/\a.2∈(monPair c.Kind).Ask/\Q≠[]/\RunP p m c (monPair c.Kind).Give a Q a
theorem Way.append {N:VV}{M:VB}{B:VI}{x:Int}:∀{A:VI}{v u:Int},Way N M v A u->Way N M u B x->Way N M v (A++B) x
 | [],v,u,h,h'=>by
  have h:u=v:=h
  subst h;exact h'
 |i::A,v,u,⟨y,h1,h2,h3⟩,h'=>⟨y,h1,h2,h3.append h'⟩
theorem pigeon {n:Nat}{f:Nat->Int}(h:∀i,0<=f i/\f i<n):∃i j,i<j/\f i=f j:=by
 by_cases hd:∃i j,i<j/\f i=f j
 .exact hd
 .exfalso
  have e:((Ee (n+1)).map f).Nodup:=by
   rw[List.Nodup,EA]
   refine List.pairwise_lt_range.imp λ{a b} d c=>hd ⟨a,b,d,c⟩
  have:=dx n _ e (λk g=>by
   obtain⟨i,_,rfl⟩:=Da.1 g
   exact h i)
  rw[DM,List.length_range]at this
  omega
section
variable {p:Sig}{m:Machine}{D:Det}{k:Nat}{K:List Key}{w:watch}(h:WK p m D k K w) (hm:machOk p m=true) (hd:detOk p D=true) (hk:pw p.In=(k:Int)){n:Nat}(hn:ltd p=n){c:Clause}{i:Nat}{π:Int->Int}(s:Sm n D c i π)
def ptP (K:List Key) (π:Int->Int) (v:Int):Key:=((keyAt K v).1,π (keyAt K v).2)
include h hm hk hn s
theorem xZ {v j x:Int}(d:0<=v) (e:v<K.length) (hE:Eg w.next v j x):ptP K π x=stP p m c (ptP K π v) j:=by
 obtain⟨z,A,⟨q,r⟩,g,i,k,l,n,o⟩:=yj h hm hk hn d e hE
 have f:=jV d e
 obtain⟨_,_,_,t,u,y⟩:=yi h hE f
 have a:=jV q r
 rw[u]at a
 have b:t=keyAt K x:=Ds a
 unfold ptP stP
 dsimp only
 rw[← b,y,b,l,s.step _ _ n o g i,k]
theorem vj {M:VB}{G:VI}(e:∀a:Int,0<=a->a<K.length->In M a->(ptP K π a).2∉G):∀{R:VI}{v u:Int},0<=v->v<K.length->Way w.next M v R u->RunP p m c G (ptP K π v) R (ptP K π u)
 | [],v,u,_,_,b=>by
  have b:u=v:=b
  rw[b];exact rfl
 |j::R,v,u,v0,v1,⟨x,h1,h2,h3⟩=>by
  obtain⟨i,k,⟨f,g⟩,_⟩:=yj h hm hk hn v0 v1 h1
  have d:=xZ h hm hk hn s v0 v1 h1
  refine⟨i,k,?_,?_⟩
  .rw[← d];exact e x f g h2
  .rw[← d];exact vj e f g h3
theorem uO {M:VB}{G:VI}(k:∀b:Int,0<=b->b<K.length->(ptP K π b).2∉G->In M b):∀{R:VI}{v:Int}{z:Key},0<=v->v<K.length->RunP p m c G (ptP K π v) R z->∃a,Way w.next M v R a/\(0<=a/\a<K.length)/\ptP K π a=z
 | [],v,z,v0,v1,hr=>⟨v,rfl,⟨v0,v1⟩,(show z=ptP K π v from hr).symm⟩
 |j::R,v,z,v0,v1,⟨i0,i1,hg,hr⟩=>by
  obtain⟨e,f,A⟩:=qk h.prod v0 v1 i0 (by omega)
  have x:=h.prod.rl
  obtain⟨d,l⟩:=cF (xs:=w.next) (i:=v) v0 (by omega)
  have n:=l
  rw[cH v0]at n
  obtain⟨y,_,_,_⟩:=h.prod.row _ d n
  obtain⟨g,q⟩:=cF (xs:=d) (i:=j) i0 (by omega)
  have hE:Eg w.next v j g:=⟨d,l,q⟩
  have o:=xZ h hm hk hn s v0 v1 hE
  rw[hE.tab]at e f
  rw[← o]at hg hr
  obtain⟨a,r,t,u⟩:=uO k e f hr
  exact⟨a,⟨g,hE,k g e f hg,r⟩,t,u⟩
end
theorem xN {p:Sig}{m:Machine}{ah:VC}{n k:Nat}{D:Det}{K:List Key}{w:watch}(h:AK p m ah n k D K w){i:Nat}{l:Pair}(ad:w.pairs[i]? =some l){c:Clause}(aC:ah[i]? =some c):hitP w.next l≠[]↔Cnd p m c:=by
 have X:=h.hc
 unfold dB at X
 rw[rx,DI]at X
 obtain⟨π,y⟩:=h.pr.sm h.ln X.2 i c aC
 obtain⟨U,av,T⟩:=y.pair
 have an:l=partP K U:=by
  rw[h.wk.pairs,C3,av]at ad
  exact(Ds ad).symm
 have al:∀a:Int,0<=a->a<K.length->0<=(keyAt K a).2/\(keyAt K a).2<D.Next.length:=λa q f=>(h.wk.kin _ (Db (jV q f))).2.2
 have ak:∀a:Int,0<=a->a<K.length->(a∈l.Ask↔(ptP K π a).2∈(monPair c.Kind).Ask):=λa q f=>by
  obtain⟨e,t⟩:=al a q f
  rw[an]
  show a∈partN K U.Ask K.length↔_
  rw[oO _ _ _ (CK _),qv q f]
  exact(T _ e t).1
 have Z:∀a:Int,0<=a->a<K.length->(In (mayM K.length l.Give) a↔(ptP K π a).2∉(monPair c.Kind).Give):=λa q f=>by
  obtain⟨e,t⟩:=al a q f
  rw[uC,an]
  show((0<=a/\a<K.length)/\a∉partN K U.Give K.length)↔_
  rw[oO _ _ _ (CK _),qv q f]
  exact⟨λV Y=>V.2 ((T _ e t).2.2 Y),λV=>⟨⟨q,f⟩,λY=>V ((T _ e t).2.1 Y)⟩⟩
 have h0:(0:Int)<K.length:=by
  have:=(Cu.1 h.wk.prod.zero).1
  omega
 have am:ptP K π 0=(0,0):=by
  have az:keyAt K 0=(0,0):=by
   unfold keyAt
   rw[show(0:Int).toNat=0 from rfl,h.wk.prod.zero];rfl
  unfold ptP
  rw[az]
  show((0:Int),π 0)=(0,0)
  rw[y.zero]
 have g:=h.gn
 have aU:=g.ln
 have ax:=h.ps.2.2 l (Db ad)
 have aj:∀r:Int,0<=r->r<K.length->In (mayM K.length []) r:=λr aQ ar=>(uC r).2 ⟨⟨aQ,ar⟩,by simp⟩
 constructor
 .intro aa
  obtain⟨s,aV,aK⟩:=EF aa
  have aJ:s∈hitP w.next l:=by rw[aK];simp
  obtain⟨H,aH⟩:=(pL g s).1 aJ
  obtain⟨af,aq⟩:=ax.rng s H
  obtain⟨aN,aI⟩:=dw af
  obtain⟨R,ai⟩:=Ab h.wk aj aN (by omega)
  rw[← aI]at ai
  obtain⟨a,f,S⟩:=aH
  obtain⟨aw,aD⟩:=S.lv
  obtain⟨Q,I,x⟩:=Lv.way (show Lv (scN w.next (mayM K.length l.Give)) s (aw+1) s from⟨a,f,aD⟩)
  have C:=vj h.wk h.hm h.kn h.ln y (M:=mayM K.length []) (G:=[]) (λa _ _ _ A=>by cases A) (DG _) h0 ai
  have ae:=vj h.wk h.hm h.kn h.ln y (λa q f A=>(Z a q f).1 A) af aq x
  rw[am]at C
  exact⟨_,R,Q,C,(ak s af aq).1 H,λF=>by rw[F]at I;simp at I,ae⟩
 .rintro⟨u,R,Q,C,ae,ao,ap⟩
  rw[← am]at C
  obtain⟨r,ar,au,aR⟩:=uO h.wk h.hm h.kn h.ln y (M:=mayM K.length []) (G:=[]) (λa q f _=>aj a q f) (DG _) h0 C
  have ab:∀b:Int,0<=b/\b<K.length/\ptP K π b=u->∃a:Int,Way w.next (mayM K.length l.Give) b Q a/\(0<=a/\a<K.length/\ptP K π a=u):=λb ⟨N,O,P⟩=>by
   obtain⟨a,f,S,aS⟩:=uO h.wk h.hm h.kn h.ln y (M:=mayM K.length l.Give) (λa q f A=>(Z a q f).2 A) N O (by rw[P];exact ap)
   exact⟨a,f,S.1,S.2,aS⟩
  classical
  let v:Int->Int:=λb=>if z:0<=b/\b<K.length/\ptP K π b=u then(ab b z).choose else b
  have ac:∀b:Int,0<=b/\b<K.length/\ptP K π b=u->Way w.next (mayM K.length l.Give) b Q (v b)/\(0<=v b/\v b<K.length/\ptP K π (v b)=u):=λb z=>by
   have:v b=(ab b z).choose:=dif_pos z
   rw[this]
   exact(ab b z).choose_spec
  let o:Nat->Int:=λj=>Nat.rec r (λ_ b=>v b) j
  have hf:∀j,0<=o j/\o j<K.length/\ptP K π (o j)=u:=λj=>by
   induction j with
   |zero=>exact⟨au.1,au.2,aR⟩
   |succ j B=>exact(ac (o j) B).2
  obtain⟨e,t,aT,aE⟩:=pigeon (n:=K.length) (f:=o) λj=>⟨(hf j).1,(hf j).2.1⟩
  have aL:∀d:Nat,∃W:VI,W≠[]/\Way w.next (mayM K.length l.Give) (o e) W (o (e+d+1)):=λd=>by
   induction d with
   |zero=>exact⟨Q,ao,(ac (o e) (hf e)).1⟩
   |succ d B=>
    obtain⟨W,ag,L⟩:=B
    refine⟨W++Q,by simp[ag],L.append (ac (o (e+d+1)) (hf (e+d+1))).1⟩
  obtain⟨W,ag,L⟩:=aL (t-e-1)
  rw[show e+(t-e-1)+1=t from by omega,← aE]at L
  obtain⟨N,O,P⟩:=hf e
  have aM:u.2∉(monPair c.Kind).Give:=by
   have aF:∀{Q:VI} {E r:Key},Q≠[]->RunP p m c (monPair c.Kind).Give E Q r->r.2∉(monPair c.Kind).Give:=λ{Q}=>by
    induction Q with
    |nil=>intro E r aa;exact absurd rfl aa
    |cons j Q B=>
     intro E r _ ⟨_,_,I,x⟩
     by_cases F:Q=[]
     .subst F
      have x:r=_:=x
      rw[x];exact I
     .exact B F x
   exact aF ao ap
  have aA:In (mayM K.length l.Give) (o e):=(Z _ N O).2 (by rw[P];exact aM)
  have H:o e∈l.Ask:=(ak _ N O).2 (by rw[P];exact ae)
  have hL:=Way.lv aA L
  obtain⟨j,W',aB⟩:=EF ag
  rw[aB]at hL
  obtain⟨E,aO,aP⟩:=hL
  have ay:Far (scN w.next (mayM K.length l.Give)) (o e):=⟨E,aO,aP.wy⟩
  have aG:o e∈hitP w.next l:=(pL g (o e)).2 ⟨H,ay⟩
  exact List.ne_nil_of_mem aG
theorem Al {p:Sig}{m:Machine}{a:VC}{n k:Nat}{D:Det}{K:List Key}{w:watch}(h:AK p m a n k D K w) (z:Int):z∈brkN w.next w.pairs w.pairs.length↔∃(i:Nat) (c:Clause),z=(i:Int)/\a[i]? =some c/\Cnd p m c:=by
 have l:=h.ps.1
 rw[vt]
 constructor
 .rintro⟨i,e,b,o,d,g⟩
  have f:a[i]? =some (a[i]'(by omega)):=ct (by omega)
  exact⟨i,_,b,f,(xN h d f).1 g⟩
 .rintro⟨i,c,e,b,d⟩
  have j:=(Cu.1 b).1
  have hp:w.pairs[i]? =some (w.pairs[i]'(by omega)):=ct (by omega)
  exact⟨i,by omega,e,_,hp,(xN h hp b).2 d⟩
section
variable {p:Sig}{m:Machine}{c:Clause}
def kst (p:Sig) (m:Machine) (c:Clause) (I:Nat->Int) (t:Nat):Key:=(runM m I t,mrun c (letM p m I) t)
theorem RunP.segm {G:VI}{I:Nat->Int}(a:∀t,0<=I t/\I t<pw p.In):∀(n t:Nat),(∀s,t<s->s<=t+n->mrun c (letM p m I) s∉G)->RunP p m c G (kst p m c I t) (seg I t n) (kst p m c I (t+n))
 |0,t,_=>rfl
 |n+1,t,h=>by
  refine⟨(a t).1,(a t).2,h (t+1) (by omega) (by omega),?_⟩
  have:=RunP.segm (G:=G) a n (t+1) λs b d=>h s (by omega) (by omega)
  rw[show t+1+n=t+(n+1) by omega]at this
  exact this
theorem RunP.rng {G:VI}:∀{R:VI}{v u:Key},RunP p m c G v R u->∀b∈R,0<=b/\b<pw p.In
 | [],_,_,_,b,a=>by cases a
 |i::R,v,u,⟨h0,h1,_,h⟩,b,a=>by
  rcases CB.1 a with d|a
  .rw[d];exact⟨h0,h1⟩
  .exact RunP.rng h b a
theorem RunP.st {G:VI}{I:Nat->Int}:∀{n t:Nat}{u:Key},RunP p m c G (kst p m c I t) (seg I t n) u->u=kst p m c I (t+n)/\∀i,i<n->mrun c (letM p m I) (t+i+1)∉G
 |0,t,u,h=>⟨h,λi a=>absurd a (D1 i)⟩
 |n+1,t,u,⟨_,_,h1,h2⟩=>by
  obtain⟨b,d⟩:=RunP.st (t:=t+1) h2
  refine⟨by rw[b,show t+1+n=t+(n+1) by omega],λi a=>?_⟩
  cases i with
  |zero=>exact h1
  |succ i=>
   have:=d i (by omega)
   rwa [show t+1+i+1=t+(i+1)+1 by omega]at this
theorem RunP.stv {G:VI}{I:Nat->Int}{n t:Nat}{v u:Key}{Q:VI}(h:RunP p m c G v Q u) (b:v=kst p m c I t) (a:Q=seg I t n):u=kst p m c I (t+n)/\∀i,i<n->mrun c (letM p m I) (t+i+1)∉G:=by
 subst b a
 exact h.st
theorem xH (hm:machOk p m=true) (k1:1<=c.Kind) (t:c.Kind<=7):Cnd p m c↔∃I:Nat->Int,(∀a,0<=I a/\I a<pw p.In)/\¬Sat c (letM p m I):=by
 constructor
 .rintro⟨P,R,Q,o,u,C,g⟩
  have l:0<(⟨R,Q⟩:Word).Loop.length:=List.length_pos_iff.2 C
  have k:∀a,0<=ltW ⟨R,Q⟩ a/\ltW ⟨R,Q⟩ a<pw p.In:=λa=>by
   rcases CA.1 (AD l a) with h|h
   .exact o.rng _ h
   .exact g.rng _ h
  have E:R=seg (ltW ⟨R,Q⟩) 0 R.length:=ye λi Y w=>by
   rw[CO]
   exact Bv l (by rw[CZ (Cu.1 w).1];exact w)
  have q:∀j,Q=seg (ltW ⟨R,Q⟩) (R.length+j * Q.length) Q.length:=zp l
  have B:kst p m c (ltW ⟨R,Q⟩) 0=(0,0):=rfl
  have n:=(o.stv B.symm E).1
  rw[CO]at n
  have v:∀j,P=kst p m c (ltW ⟨R,Q⟩) (R.length+j * Q.length)/\∀i,i<Q.length->mrun c (letM p m (ltW ⟨R,Q⟩)) (R.length+j * Q.length+i+1)∉(monPair c.Kind).Give:=λj=>by
   induction j with
   |zero=>exact⟨by rw[Nat.zero_mul,Nat.add_zero];exact n,(g.stv (by rw[Nat.zero_mul,Nat.add_zero];exact n) (q 0)).2⟩
   |succ j O=>
    have e:=(g.stv O.1 (q j)).1
    rw[Nat.add_assoc,← Nat.succ_mul]at e
    exact⟨e,(g.stv e (q (j+1))).2⟩
  refine⟨ltW ⟨R,Q⟩,k,λhs=>?_⟩
  obtain⟨a,b,d⟩:=(vd k1 t).1 hs (λN=>⟨R.length+N * Q.length,by have:=Nat.mul_le_mul_left N l;dsimp only at this;omega,by have:=(v N).1;rw[this]at u;exact u⟩) (R.length+1)
  have hd:=Nat.mod_add_div (a-R.length-1) Q.length
  have H:=Nat.mod_lt (a-R.length-1) l
  have:=(v ((a-R.length-1) / Q.length)).2 ((a-R.length-1) % Q.length) H
  rw[Nat.mul_comm]at hd
  rw[show R.length+(a-R.length-1) / Q.length * Q.length+(a-R.length-1) % Q.length+1=a by omega]at this
  exact this d
 .rintro⟨I,k,hn⟩
  rw[vd k1 t]at hn
  obtain⟨ha,F⟩:=Classical.not_imp.1 hn
  obtain⟨N,D⟩:=Classical.not_forall.1 F
  have K:=uN hm k
  have r:=rz (L:=letM p m I) k1 t
  have g:monStates c.Kind<=4:=by unfold monStates;(repeat' split) <;> omega
  have X:=(dm hm).2.1
  obtain⟨Z,x⟩:=Par.Io.val (f:=λa=>runM m I a * 4+mrun c (letM p m I) a) 192 (S:=λa=>N<=a/\mrun c (letM p m I) a∈(monPair c.Kind).Ask) (λM=>by
   obtain⟨a,b,d⟩:=ha (max M N)
   exact⟨a,by omega,by omega,d⟩) (λa _=>by
   have:=K a
   have:=r a
   omega)
  obtain⟨b,_,⟨T,A⟩,U⟩:=x 0
  obtain⟨d,V,_,W⟩:=x (b+1)
  have e:kst p m c I d=kst p m c I b:=by
   have:=r b
   have:=r d
   exact Prod.ext (by show runM m I d=runM m I b;omega) (by show mrun c (letM p m I) d=mrun c (letM p m I) b;omega)
  have y:=RunP.segm (p:=p) (m:=m) (c:=c) (G:=[]) k b 0 λ_ _ _ h=>by cases h
  have z:=RunP.segm (p:=p) (m:=m) (c:=c) (G:=(monPair c.Kind).Give) k (d-b) b λs o _ h=>D ⟨s,by omega,h⟩
  rw[show b+(d-b)=d by omega,e]at z
  rw[CO]at y
  refine⟨kst p m c I b,_,_,y,A,λh=>?_,z⟩
  have:=congrArg List.length h
  rw[vg,DO]at this
  omega
end
section
variable {p:Sig}{d:Det}{n m k:Nat}{A:Arena}{P:VL}{g:Parity}{W:Int->Prop}{pk:VI}(h:Cx d n m k A P g W pk) (h0:wB W 0=false) (hm:pw p.In=(m:Int)){j:Nat}(hj:∀i,i<j->i<(itM d n m k P g pk i).1.length) (hjl:j=(itM d n m k P g pk j).1.length)
include h h0 hm hj hjl
theorem vR {v:Key}(s:RchW (kyW ⟨(itM d n m k P g pk j).2.1,(itM d n m k P g pk j).2.2⟩ d (pw p.In)) m v):0<=v.1/\∃a,(itM d n m k P g pk j).1[v.1.toNat]? =some a/\v.2=atP P a:=by
 obtain⟨_,_,E⟩:=ut (d:=d) (n:=n) (m:=m) (k:=k) (P:=P) (g:=g) (pk:=pk) j hj
 have e:=iA h h0 j hj
 induction s with
 |zero=>
  refine⟨DG 0,0,e.zero,?_⟩
  exact(eT (v:=⟨0,firstR d.Pairs.length⟩) (by show idx P ((0:Nat):Int)=_;rw[bT];exact h.rg.game.zero)).symm
 | @step v i s o G=>
  obtain⟨V,a,c,N⟩:=G
  obtain⟨W,S,Q,f,y,z,A⟩:=E _ (by rw[hjl];exact(Cu.1 c).1)
  rw[c]at f
  cases f
  obtain⟨⟨K,L,M,u⟩,w⟩:=A i o
  obtain⟨F,t⟩:=e.all a (Db c)
  obtain⟨R,b,_,_⟩:=h.place (e.nm.2 a (Db c))
  rw[eT b]at t
  obtain⟨q,r,l,O,B,_,_,hf⟩:=tF h b t F
  obtain⟨_,_,U,_,_,_,_,_,T,H,_,I,_⟩:=hf i o
  rw[dW B,eT b,l,DH]at u w
  have C:tab (itM d n m k P g pk j).2.1 v.1 (i:Int)=K:=by
   unfold tab
   rw[bR,bR,y,EC,DH,L,EC]
  have D:tab (itM d n m k P g pk j).2.2 v.1 (i:Int)=oM d pk P r n m k q i:=by
   unfold tab
   rw[bR,bR,z,EC,DH,w,EC]
  show 0<=tab (itM d n m k P g pk j).2.1 v.1 (i:Int)/\∃x,(itM d n m k P g pk j).1[(tab (itM d n m k P g pk j).2.1 v.1 (i:Int)).toNat]? =some x/\tab d.Next v.2 (tab (itM d n m k P g pk j).2.2 v.1 (i:Int) * pw p.In+(i:Int))=atP P x
  rw[C,D,hm,N,eT b,l]
  exact⟨M,_,u,(vY I).2.trans H⟩
end
theorem MadeBy.inj {p:Sig}{e:VC}{M:Machine}(h:MadeBy p e M){D:Det}{k:Nat}(i:cO p e=some (D,true)) (hk:pw p.In=(k:Int)){u:Key}(s:RchW (kyW M D (pw p.In)) k u):0<=u.1/\u.1<32/\∀b,RchW (kyW M D (pw p.In)) k b->u.1=b.1->u=b:=by
 obtain⟨r,a,hn,hp,h0,hj,hjl⟩:=h
 rename_i d n m B A P g W pk j
 rw[r]at i
 cases i
 have:m=k:=by have:=a.im;omega
 subst this
 have l:=iA a.cx h0 j hj
 have z:=se a.cx hn hp l.nm λo v=>(l.all o v).2
 obtain⟨q,o,c,w⟩:=vR (p:=p) a.cx h0 a.im hj hjl s
 have:=(Cu.1 c).1
 refine⟨q,by omega,λb t f=>Prod.ext f ?_⟩
 obtain⟨_,C,x,y⟩:=vR (p:=p) a.cx h0 a.im hj hjl t
 rw[f,x]at c
 cases c
 rw[w,y]
theorem MadeBy.few {p:Sig}{e:VC}{M:Machine}(h:MadeBy p e M){D:Det}{k:Nat}(f:cO p e=some (D,true)) (hk:pw p.In=(k:Int)):¬ManyK M D (pw p.In) k:=by
 rintro⟨K,r,o,_,d⟩
 have j:(K.map (·.1)).Nodup:=by
  unfold List.Nodup
  rw[EA]
  exact List.Pairwise.imp_of_mem (λ{q a} m c l b=>l ((h.inj f hk (d q m)).2.2 a (d a c) b)) o
 have:=dx 32 _ j λs n=>by
  obtain⟨a,c,b⟩:=Da.1 n
  obtain⟨g,i,_⟩:=h.inj f hk (d a c)
  rw[← b]
  exact⟨g,i⟩
 rw[DM]at this
 omega
theorem xG {p:Sig}(hs:sigOk p=true){a:VC}(t:∀c∈a,Clause.bd c) (g:∀c∈a,cZ p c=true) (v:a.length<=2){M:Machine}(hm:machOk p M=true) (hf:∀n k D,PR n a D->cO p a=some (D,true)->pw p.In=((k:Nat):Int)->¬ManyK M D (pw p.In) k):
 ∃n k D K w,AK p M a n k D K w/\jM p M a=some (w.next,w.pairs,true)/\iY p M a=some (some w,true)/\∀m,m∈brkN w.next w.pairs w.pairs.length↔∃(i:Nat) (c:Clause),m=(i:Int)/\a[i]? =some c/\∃I:Nat->Int,(∀q,0<=I q/\I q<pw p.In)/\¬Sat c (letM p M I):=by
 have u:dB p a=true:=by
  unfold dB
  rw[decide_eq_true (by omega),DI.2 g];rfl
 rcases yl p M t with ⟨_,_,f⟩|⟨n,k,D,K,w,o,e,f⟩
 .exfalso
  rcases f hs hm u with h|⟨n,k,D,_,hk,s,e,r⟩
  .omega
  .exact hf n k D s e hk r
 .refine⟨n,k,D,K,w,o,e,f,λm=>?_⟩
  rw[Al o]
  constructor
  .rintro⟨i,c,d,b,h⟩
   obtain⟨j,l⟩:=ms (g c (Db b))
   exact⟨i,c,d,b,(xH hm j l).1 h⟩
  .rintro⟨i,c,d,b,h⟩
   obtain⟨j,l⟩:=ms (g c (Db b))
   exact⟨i,c,d,b,(xH hm j l).2 h⟩
def atL (L:VI) (q:Int):Int:=L.getD q.toNat 0
theorem kb {L:VI}{q:Int}(b:0<=q) (c:q<L.length):idx L q=some (atL L q):=by
 obtain⟨d,a,_⟩:=iX (xs:=L) b c
 unfold atL
 rw[a]
 rw[cH b]at a
 rw[bR,a,EC]
def near (m:Machine) (L:VI) (p q:Nat):Bool:=
 decide (atL L p=atL L q)&&(decide (m.Out.getD p []=m.Out.getD q [])&&decide ((m.Next.getD p []).map (atL L)=(m.Next.getD q []).map (atL L)))
theorem lc (m:Machine) (L:VI) (q:Nat):near m L q q=true:=by simp[near]
structure Mok (l:Int) (n:Nat) (m:Machine):Prop where
 hn:1<=n/\n<=48
 next:m.Next.length=n
 out:m.Out.length=n
 nx:∀q,q<n->∃row,m.Next[q]? =some row/\m.Next.getD q []=row/\(row.length:Int)=l/\∀x∈row,0<=x/\x<n
 ou:∀q,q<n->∃row,m.Out[q]? =some row/\m.Out.getD q []=row/\(row.length:Int)=l
 hl:0<=l/\l<=4
theorem Mok.of {p:Sig}{m:Machine}(h:machOk p m=true):Mok (pw p.In) m.Next.length m:=by
 obtain⟨c,d,e,f,g⟩:=dm h
 have i:=gG p.In
 refine⟨⟨c,d⟩,rfl,e,λq a=>?_,λq a=>?_,by omega⟩
 .refine⟨m.Next[q],ct a,by simp[a],?_⟩
  exact f _ (En a)
 .have b:q<m.Out.length:=by omega
  refine⟨m.Out[q],ct b,by simp[b],?_⟩
  exact(g _ (En b)).1
section
variable {l:Int}{n:Nat}{m:Machine}(hm:Mok l n m)
include hm
theorem uY {L:VI}(hL:L.length=n){p q:Nat}(hp:p<n) (G:q<n):qB m L p q=some (near m L p q):=by
 obtain⟨a,H,I,aa,K⟩:=hm.nx p hp
 obtain⟨d,M,N,ab,O⟩:=hm.nx q G
 obtain⟨b,P,Q,ac⟩:=hm.ou p hp
 obtain⟨c,R,S,ad⟩:=hm.ou q G
 obtain⟨ag,ah⟩:=hm.hn
 obtain⟨ae,af⟩:=hm.hl
 unfold qB
 rw[kb (by omega) (by omega),D3,kb (by omega) (by omega),D3]
 have V:near m L p q=(decide (atL L p=atL L q)&&(decide (b=c)&&decide (a.map (atL L)=d.map (atL L)))):=by unfold near;rw[I,N,Q,S]
 rw[V,bne]
 by_cases z:atL L p=atL L q
 .have:((atL L p==atL L q):Bool)=true:=by rw[beq_iff_eq];exact z
  rw[this]
  simp only[DD,cond_false,z,decide_true,Bool.true_and]
  obtain⟨W,T,e⟩:=cM (f:=nA m L p q) (λj (s:Int)=>s=(j:Int)/\j<=a.length/\∀i,i<j->b[i]? =c[i]?/\(a.map (atL L))[i]? =(d.map (atL L))[i]?) (λr=>r=false/\¬(b=c/\a.map (atL L)=d.map (atL L))) (λ_=>b=c/\a.map (atL L)=d.map (atL L)) 4 (λj s ⟨hs,hj,C⟩=>by
   subst hs
   unfold nA
   rw[bT,bT,bT,bT,H,M,P,R]
   simp only[D3]
   by_cases F:(j:Int)<(a.length:Int)
   .have l:a[j]? =some (a[j]'(by omega)):=ct (by omega)
    have o:d[j]? =some (d[j]'(by omega)):=ct (by omega)
    have t:b[j]? =some (b[j]'(by omega)):=ct (by omega)
    have w:c[j]? =some (c[j]'(by omega)):=ct (by omega)
    generalize a[j]'(by omega)=x at l
    generalize d[j]'(by omega)=y at o
    generalize b[j]'(by omega)=u at t
    generalize c[j]'(by omega)=v at w
    obtain⟨X,ai⟩:=K x (Db l)
    obtain⟨Y,aj⟩:=O y (Db o)
    simp only[F,decide_true,cond_true,bT,l,o,t,w,D3,kb X (by omega:x<L.length),kb Y (by omega:y<L.length),orE,bne]
    by_cases A:u=v
    .by_cases B:atL L x=atL L y
     .have D:(u==v)=true:=by rw[beq_iff_eq];exact A
      have E:(atL L x==atL L y)=true:=by rw[beq_iff_eq];exact B
      rw[D,E]
      refine⟨_,rfl,by omega,?_,by omega,λi k=>?_⟩
      .rw[wr' (by omega) (by omega)];omega
      .by_cases U:i=j
       .subst U
        rw[t,w,C3,C3,l,o]
        simp[A,B]
       .exact C i (by omega)
     .have E:(atL L x==atL L y)=false:=by rw[beq_eq_false_iff_ne];exact B
      rw[E]
      simp only[D4,Bool.or_true,cond_true]
      refine⟨_,rfl,rfl,λ⟨_,g⟩=>B ?_⟩
      have:=congrArg (λZ=>Z[j]?) g
      simp only[C3,l,o,Option.map_some,Option.some.injEq]at this
      exact this
    .have D:(u==v)=false:=by rw[beq_eq_false_iff_ne];exact A
     rw[D]
     simp only[D4,Bool.true_or,cond_true]
     refine⟨_,rfl,rfl,λ⟨g,_⟩=>A ?_⟩
     rw[g,w]at t
     exact(Ds t).symm
   .simp only[F,decide_false,cond_false]
    refine⟨_,rfl,CY λi=>?_,CY λi=>?_⟩
    .by_cases k:i<j
     .exact(C i k).1
     .rw[D8 (by omega),D8 (by omega)]
    .by_cases k:i<j
     .exact(C i k).2
     .rw[D8 (by rw[DM];omega),D8 (by rw[DM];omega)]) (2 ^ 64) 0 0 (by omega) ⟨rfl,by omega,λi k=>absurd k (D1 i)⟩ (by omega)
  rw[T]
  match W,e with
  |.inl r,e=>
   rw[e.1]
   have:(decide (b=c)&&decide (a.map (atL L)=d.map (atL L)))=false:=by
    rw[Bool.eq_false_iff]
    intro g
    simp only[rx,decide_eq_true_eq]at g
    exact e.2 g
   rw[this];rfl
  |.inr s,e=>
   rw[decide_eq_true e.1,decide_eq_true e.2];rfl
 .have:((atL L p==atL L q):Bool)=false:=by rw[beq_eq_false_iff_ne];exact z
  rw[this]
  simp[z]
end
theorem p6 {m:Machine}{L:VI}{p q:Nat}(h:near m L p q=true):atL L p=atL L q/\m.Out.getD p []=m.Out.getD q []:=by
 simp only[near,rx,decide_eq_true_eq]at h
 exact⟨h.1,h.2.1⟩
def firstN (c:Nat->Bool) (q:Nat):Nat:=((Ee (q+1)).find? c).getD q
theorem qH {c:Nat->Bool}{q:Nat}(h:c q=true):firstN c q<=q/\c (firstN c q)=true/\∀p,p<firstN c q->c p=false:=by
 unfold firstN
 cases hf:(Ee (q+1)).find? c with
 |none=>
  rw[List.find?_eq_none]at hf
  exact absurd h (hf q (by simp))
 |some p=>
  rw[List.find?_range_eq_some]at hf
  obtain⟨a,b,d⟩:=hf
  rw[List.mem_range]at b
  refine⟨by show p<=q;omega,a,λi e=>?_⟩
  have:=d i e
  simpa using this
theorem gK (m:Machine) (L:VI) (q:Nat):firstN (λp=>near m L p q) q<=q/\near m L (firstN (λp=>near m L p q) q) q=true/\∀p,p<firstN (λp=>near m L p q) q->near m L p q=false:=qH (c:=λp=>near m L p q) (lc m L q)
theorem nQ {c:Nat->Bool}{q p:Nat}(h:c q=true) (d:c p=true) (f:∀i,i<p->c i=false):p=firstN c q:=by
 obtain⟨g,b,e⟩:=qH h
 rcases Nat.lt_trichotomy p (firstN c q) with a|a|a
 .rw[e p a]at d;cases d
 .exact a
 .rw[f _ a]at b;cases b
def dq (m:Machine) (L:VI):VI:=(Ee L.length).map (λq=>((firstN (λp=>near m L p q) q:Nat):Int))
theorem dz (m:Machine) (L:VI):(dq m L).length=L.length:=by simp[dq]
theorem lL {m:Machine}{L:VI}{q:Nat}(a:q<L.length):atL (dq m L) q=(firstN (λp=>near m L p q) q:Nat):=by
 simp[atL,dq,a]
def Low (L:VI):Prop:=∀q:Nat,q<L.length->0<=atL L q/\atL L q<=q
theorem gt (m:Machine) (L:VI):Low (dq m L):=λq a=>by
 rw[dz]at a
 rw[lL a]
 have:=(gK m L q).1
 omega
theorem zA {m:Machine}{L:VI}(h:Low L){q:Nat}(d:q<L.length):atL L q<=atL (dq m L) q:=by
 rw[lL d]
 obtain⟨e,b,_⟩:=gK m L q
 have a:=(h (firstN (λp=>near m L p q) q) (by omega)).2
 have c:=(p6 b).1
 rw[c]at a
 exact a
def sumL:VI->Int
 | []=>0
 |x::xs=>x+sumL xs
theorem yh:∀{xs ys:VI},xs.length=ys.length->(∀(i:Nat) x y,xs[i]? =some x->ys[i]? =some y->x<=y)->sumL xs<=sumL ys/\(sumL xs=sumL ys->xs=ys)
 | [],[],_,_=>⟨DG _,λ_=>rfl⟩
 | [],_::_,h,_=>by cases h
 |_::_,[],h,_=>by cases h
 |x::xs,y::ys,h,hh=>by
  have f:=hh 0 x y rfl rfl
  obtain⟨g,d⟩:=yh (xs:=xs) (ys:=ys) (by simpa using h) λi a b ha e=>hh (i+1) a b (by simpa using ha) (by simpa using e)
  refine⟨by simp only[sumL];omega,λc=>?_⟩
  simp only[sumL]at c
  rw[d (by omega),show x=y from by omega]
theorem rE {n:Int}:∀{xs:VI},(∀a∈xs,0<=a/\a<=n)->0<=sumL xs/\sumL xs<=xs.length * n
 | [],_=>by simp[sumL]
 |a::xs,h=>by
  have e:=h a (DP ..)
  have f:=rE (n:=n) (xs:=xs) λc b=>h c (C9 _ b)
  simp only[sumL,Cy]
  have d:((xs.length+1:Nat):Int) * n=xs.length * n+n:=by rw[Int.natCast_add,Int.add_mul];simp
  omega
def left (L:VI):Nat:=(2400-sumL L).toNat
theorem wS {L:VI}{q:Nat}{x:Int}(h:L[q]? =some x):atL L q=x:=by simp[atL,h]
theorem uA {L:VI}(h:Low L) (hl:L.length<=48):∀a∈L,0<=a/\a<=48:=λa d=>by
 obtain⟨q,b⟩:=List.mem_iff_getElem?.1 d
 have c:=(Cu.1 b).1
 have:=h q c
 rw[wS b]at this
 omega
theorem uv {m:Machine}{L:VI}(h:Low L) (hl:L.length<=48) (f:dq m L≠L):left (dq m L)<left L:=by
 have b:=yh (xs:=L) (ys:=dq m L) (dz m L).symm λi l n d g=>by
  have c:=(Cu.1 d).1
  have:=zA (m:=m) h c
  rw[wS d,wS g]at this
  exact this
 have c:sumL L<sumL (dq m L):=by
  rcases Int.lt_or_eq_of_le b.1 with a|a
  .exact a
  .exact absurd (b.2 a).symm f
 have e:(dq m L).length<=48:=by rw[dz];exact hl
 have j:=rE (uA (gt m L) e)
 have k:((dq m L).length:Int) * 48<=48 * 48:=Int.mul_le_mul_of_nonneg_right (by omega) (by omega)
 unfold left
 omega
def rest (m:Machine):Nat->VI->VI
 |0,L=>L
 |k+1,L=>if dq m L=L then L else rest m k (dq m L)
theorem zH {m:Machine}{L:VI}(h:dq m L=L):∀k,rest m k L=L
 |0=>rfl
 |k+1=>by simp[rest,h]
theorem sv {m:Machine}:∀(k:Nat) (L:VI),Low L->Low (rest m k L)/\(rest m k L).length=L.length
 |0,L,h=>⟨h,rfl⟩
 |k+1,L,h=>by
  simp only[rest]
  split
  .exact⟨h,rfl⟩
  .have:=sv (m:=m) k _ (gt m L)
   rw[dz]at this
   exact this
section
variable {l:Int}{n:Nat}{m:Machine}(hm:Mok l n m)
include hm
theorem B6 {L:VI}(hL:L.length=n):cntM (ki m L) L.length 0 ([]:VI)=some (.inr (dq m L)):=by
 obtain⟨x,y⟩:=hm.hn
 obtain⟨s,e,g⟩:=ch (f:=ki m L) (λj s=>s=(Ee j).map (λq=>((firstN (λp=>near m L p q) q:Nat):Int))) L.length (s:=[]) rfl (λj s hj hs=>by
  subst hs
  unfold ki
  obtain⟨r,t,u⟩:=gK m L j
  obtain⟨o,l,a⟩:=cM (f:=mH m L j) (λi (s:Int)=>s=(i:Int)/\i<=j/\∀p,p<i->near m L p j=false) (λ_=>False) (λs=>s=(firstN (λp=>near m L p j) j:Nat)) j (λi s ⟨hs,v,b⟩=>by
   subst hs
   unfold mH
   rw[uY hm hL (by omega) (by omega),D3]
   cases hn:near m L i j with
   |true=>exact⟨_,rfl,by rw[nQ (c:=λp=>near m L p j) (lc m L j) hn b]⟩
   |false=>
    have w:i≠j:=λd=>by rw[d,lc]at hn;cases hn
    refine⟨_,rfl,by omega,?_,by omega,λp hp=>?_⟩
    .rw[wr' (by omega) (by omega)];omega
    .by_cases k:p=i
     .rw[k];exact hn
     .exact b p (by omega)) (2 ^ 64) 0 0 (by omega) ⟨rfl,by omega,λp hp=>absurd hp (D1 p)⟩ (by omega)
  match o,a with
  |.inr s,a=>
   rw[show((0:Int))=((0:Int)) from rfl,l,D3,bU,a,app1 (by simp;omega) rfl]
   exact⟨_,rfl,by rw[List.range_succ,List.map_append];rfl⟩)
 rw[e,g]
 rfl
omit hm in
theorem wA (xs ys:VI):ni xs ys=some (decide (xs=ys)):=by
 unfold ni
 rw[zk]
 by_cases h:xs.length=ys.length
 .simp only[h,decide_true,DD,cond_false]
  rw[← h,uf (f:=kL xs ys) (r:=false) (λb c=>decide (b=c)) h (λi b c e g=>by
   unfold kL
   rw[bT,e,D3,bT,g,D3]
   by_cases a:b=c
   .subst a;simp
   .have d:(b==c)=false:=by simp[a]
    simp[bne,d,a]),nI h]
  by_cases a:xs=ys
  .simp[a,aft]
  .simp[a,aft]
 .have:¬(xs=ys):=λa=>h (by rw[a])
  simp[h,this]
theorem zU:∀(k K:Nat) (L:VI),L.length=n->Low L->left L<k->k<=K->cd (kh m) K L=some (.inl (rest m k L))
 |0,_,_,_,_,h,_=>absurd h (D1 _)
 |k+1,K,L,hL,hlow,hk,hK=>by
  obtain⟨c,d⟩:=hm.hn
  rw[jc (by omega)]
  have b:kh m L=some (if dq m L=L then .inl L else .inr (.inr (dq m L))):=by
   unfold kh
   rw[B6 hm hL,D3,bU,wA,D3]
   by_cases a:dq m L=L
   .simp[a]
   .simp[a]
  rw[b,D3]
  simp only[rest]
  by_cases a:dq m L=L
  .rw[if_pos a,if_pos a];rfl
  .rw[if_neg a,if_neg a,mu]
   have:=uv (m:=m) hlow (by omega) a
   exact zU k (K-1) _ (by rw[dz];exact hL) (gt m L) (by omega) (by omega)
theorem wV {q:Nat}(g:q<n) (p:Nat):near m (De n 0) p q=decide (m.Out.getD p []=m.Out.getD q [])\/n<=p:=by
 by_cases hp:p<n
 .left
  have h0:∀a:Int,atL (De n 0) a=0:=λa=>by
   unfold atL
   rw[bR,D9]
   split <;> rfl
  unfold near
  obtain⟨c,j,e,k,l⟩:=hm.nx p hp
  obtain⟨d,o,f,s,t⟩:=hm.nx q g
  have:c.map (atL (De n 0))=d.map (atL (De n 0)):=by
   have b:∀r:VI,r.map (atL (De n 0))=De r.length 0:=λr=>by
    induction r with
    |nil=>rfl
    |cons a r i=>rw[List.map_cons,i,h0];rfl
   rw[b,b,show c.length=d.length from by omega]
  rw[e,f,this,h0,h0]
  simp
 .exact .inr (by omega)
end
section
variable {l:Int}{n:Nat}{m:Machine}(hm:Mok l n m)
include hm
def Apart (m:Machine) (L:VI):Prop:=∀p q:Nat,p<L.length->q<L.length->atL L p=atL L q->m.Out.getD p []=m.Out.getD q []
omit hm in
theorem qK (m:Machine) (L:VI):Apart m (dq m L):=λp q hp e c=>by
 rw[dz]at hp e
 rw[lL hp,lL e]at c
 have a:=(gK m L p).2.1
 have b:=(gK m L q).2.1
 have a:=p6 a
 have b:=p6 b
 have c:firstN (λd=>near m L d p) p=firstN (λd=>near m L d q) q:=by omega
 rw[← a.2,← b.2,c]
omit hm in
theorem tU {f:Int->VI->Option (VI⊕(VI⊕VI))}{c:Nat->Bool}{q:Nat}{s:VI}(a:c q=true)
 (h:∀i:Nat,i<=q->f (i:Int) s=some (if c i then .inr (.inl (s.set q (i:Int))) else .inr (.inr s))):∀(k j:Nat),j+k=q+1->(∀i,i<j->c i=false)->cntM f k (j:Int) s=some (.inr (s.set q ((firstN c q:Nat):Int)))
 |0,j,hj,hall=>by rw[hall q (by omega)]at a;cases a
 |k+1,j,hj,hall=>by
  show Dl (f j s) _=_
  rw[h j (by omega),D3]
  cases b:c j with
  |true=>
   rw[← nQ a b hall]
   rfl
  |false=>
   simp only[Bool.false_eq_true,if_false,mu]
   have:=tU a h k (j+1) (by omega) λi e=>by
    by_cases d:i=j
    .rw[d];exact b
    .exact hall i (by omega)
   exact this
omit hm in
theorem qQ {f:Int->VI->Option (VI⊕(VI⊕VI))}(c:Nat->Bool){q:Nat}{s:VI}(b:c q=true) (hs:q<s.length)
 (h:∀i:Nat,i<=q->f (i:Int) s=some (if c i then .inr (.inl (s.set q (i:Int))) else .inr (.inr s))):cntM f (q+1) 0 s=some (.inr (s.set q ((firstN c q:Nat):Int))):=by
 exact tU b h (q+1) 0 (by omega) λi a=>absurd a (D1 i)
theorem Aq:cntM (ec m) n 0 (De n (0:Int))=some (.inr (dq m (De n 0))):=by
 obtain⟨B,C⟩:=hm.hn
 obtain⟨s,u,d,c⟩:=ch (f:=ec m) (λj (s:VI)=>s.length=n/\∀q:Nat,q<j->s[q]? =some ((firstN (λp=>near m (De n 0) p q) q:Nat):Int)) n (s:=De n (0:Int)) ⟨by simp,λq b=>absurd b (D1 q)⟩ (λj s hj ⟨d,c⟩=>by
  unfold ec
  have x:Dr .i64 ((j:Int)+1)=((j+1:Nat):Int):=by rw[wr' (by omega) (by omega)];omega
  have w:rng ((j+1:Nat):Int)=some ():=by unfold rng;rw[if_pos (by omega)]
  obtain⟨g,o,r,z⟩:=hm.ou j hj
  have hs:=qQ (f:=eW m j) (λp=>near m (De n 0) p j) (q:=j) (s:=s) (lc _ _ _) (by omega) (λi A=>by
   obtain⟨e,k,l,y⟩:=hm.ou i (by omega)
   unfold eW
   have v:=(wV hm hj i).resolve_right (by omega)
   rw[v,l,r,bT,bT,k,o]
   simp only[D3,fE]
   have:idx s (j:Int)=some (s[j]'(by omega)):=by rw[bT];exact ct (by omega)
   by_cases a:g=e
   .subst a
    simp only[decide_true,cond_true,this,D3,qj (show j<s.length by omega),if_true]
   .have t:¬e=g:=λh=>a h.symm
    simp[a,t])
  rw[x,w,D3,Int.sub_zero,DH,hs]
  refine⟨_,rfl,by rw[List.length_set];exact d,λq b=>?_⟩
  by_cases a:q=j
  .subst a;rw[List.getElem?_set_self (by omega)]
  .rw[List.getElem?_set_ne (λh=>a h.symm)]
   exact c q (by omega))
 rw[u]
 congr 2
 apply CY
 intro q
 by_cases b:q<n
 .rw[c q b];simp[dq,b]
 .rw[D8 (by omega),D8 (by rw[dz];simp;omega)]
theorem Bk {L:VI}(hL:L.length=n) (ha:Apart m L){p q:Nat}(hp:p<n) (B:q<n){row:VI}(o:m.Next[q]? =some row):
 cntM (dN m L q p) row.length 0 (atL L q==atL L p)=some (.inr (near m L p q)):=by
 obtain⟨b,r,t,G,u⟩:=hm.nx p hp
 obtain⟨a,l,v,H,w⟩:=hm.nx q B
 rw[l]at o
 obtain rfl:a=row:=Ds o
 obtain⟨s,g,i⟩:=ch (f:=dN m L q p) (λj (s:Bool)=>s=(decide (atL L p=atL L q)&&decide ((b.map (atL L)).take j=(a.map (atL L)).take j))) a.length (s:=(atL L q==atL L p)) (by
  by_cases e:atL L p=atL L q
  .simp[e]
  .have z:¬atL L q=atL L p:=λh=>e h.symm
   simp[e,z]) (λj s hj hs=>by
  have c:b[j]? =some (b[j]'(by omega)):=ct (by omega)
  have d:a[j]? =some (a[j]'(by omega)):=ct (by omega)
  generalize b[j]'(by omega)=x at c
  generalize a[j]'(by omega)=y at d
  obtain⟨E,I⟩:=u x (Db c)
  obtain⟨F,K⟩:=w y (Db d)
  unfold dN
  rw[bT,bT,r,l]
  simp only[D3,bT,c,d,kb E (by omega:x<L.length),kb F (by omega:y<L.length),andE]
  refine⟨_,rfl,?_⟩
  have C:(b.map (atL L)).take (j+1)=(b.map (atL L)).take j++[atL L x]:=by rw[DX,C3,c];rfl
  have D:(a.map (atL L)).take (j+1)=(a.map (atL L)).take j++[atL L y]:=by rw[DX,C3,d];rfl
  have A:((b.map (atL L)).take j).length=((a.map (atL L)).take j).length:=by simp;omega
  rw[C,D,hs,Bool.and_assoc]
  congr 1
  rw[Bool.eq_iff_iff]
  simp only[rx,decide_eq_true_eq,beq_iff_eq]
  constructor
  .rintro⟨g,i⟩
   rw[g,i]
  .intro h
   have:=List.append_inj h A
   exact⟨this.1,by simpa using this.2.symm⟩)
 rw[g,i]
 congr 2
 unfold near
 rw[t,v]
 rw[Dh (by rw[DM];omega),Dh (by rw[DM];omega)]
 by_cases k:atL L p=atL L q
 .have:=ha p q (by omega) (by omega) k
  rw[decide_eq_true k,decide_eq_true this]
  rfl
 .rw[decide_eq_false k]
  rfl
theorem Br {L:VI}(hL:L.length=n) (ha:Apart m L):cntM (ee m L) L.length 0 (De n (0:Int))=some (.inr (dq m L)):=by
 obtain⟨u,v⟩:=hm.hn
 obtain⟨s,g,e,b⟩:=ch (f:=ee m L) (λj (s:VI)=>s.length=n/\∀q:Nat,q<j->s[q]? =some ((firstN (λp=>near m L p q) q:Nat):Int)) L.length (s:=De n (0:Int)) ⟨by simp,λq a=>absurd a (D1 q)⟩ (λj s hj ⟨e,b⟩=>by
  unfold ee
  have l:Dr .i64 ((j:Int)+1)=((j+1:Nat):Int):=by rw[wr' (by omega) (by omega)];omega
  have k:rng ((j+1:Nat):Int)=some ():=by unfold rng;rw[if_pos (by omega)]
  obtain⟨w,c,o,r⟩:=hm.nx j (by omega)
  have hs:=qQ (f:=eY m L j) (λp=>near m L p j) (q:=j) (s:=s) (lc _ _ _) (by omega) (λi t=>by
   unfold eY
   rw[kb (by omega) (by omega),D3,kb (by omega) (by omega),D3,bT,c,D3,Bk hm hL ha (by omega) (by omega) c,D3,bU]
   have:idx s (j:Int)=some (s[j]'(by omega)):=by rw[bT];exact ct (by omega)
   cases near m L i j with
   |true=>simp only[cond_true,this,D3,qj (show j<s.length by omega),if_true]
   |false=>rfl)
  rw[l,k,D3,Int.sub_zero,DH,hs]
  refine⟨_,rfl,by rw[List.length_set];exact e,λq a=>?_⟩
  by_cases d:q=j
  .subst d;rw[List.getElem?_set_self (by omega)]
  .rw[List.getElem?_set_ne (λh=>d h.symm)]
   exact b q (by omega))
 rw[g]
 congr 2
 apply CY
 intro q
 by_cases a:q<n
 .rw[b q (by omega)];simp[dq,a,hL]
 .rw[D8 (by omega),D8 (by rw[dz];omega)]
theorem zb:∀(k K:Nat) (L:VI),L.length=n->Low L->Apart m L->left L<k->k<=K->cd (ed m) K L=some (.inl (rest m k L))
 |0,_,_,_,_,_,h,_=>absurd h (D1 _)
 |k+1,K,L,hL,hlow,ha,hk,hK=>by
  obtain⟨c,d⟩:=hm.hn
  rw[jc (by omega)]
  have b:ed m L=some (if dq m L=L then .inl L else .inr (.inr (dq m L))):=by
   unfold ed
   rw[dg (by omega) rfl,D3,hL]
   have:=Br hm hL ha
   rw[hL]at this
   rw[this,D3,bU,fE,D3]
   by_cases a:dq m L=L
   .simp[a]
   .simp[a]
  rw[b,D3]
  simp only[rest]
  by_cases a:dq m L=L
  .rw[if_pos a,if_pos a];rfl
  .rw[if_neg a,if_neg a,mu]
   have:=uv (m:=m) hlow (by omega) a
   exact zb k (K-1) _ (by rw[dz];exact hL) (gt m L) (qK m L) (by omega) (by omega)
omit hm in
theorem low0 (n:Nat):Low (De n 0):=λq a=>by
 have:atL (De n 0) q=0:=by
  unfold atL
  rw[bR,D9]
  split <;> rfl
 rw[this];omega
end
theorem su {m:Machine}:∀(k:Nat) (L:VI),Low L->L.length<=48->left L<k->dq m (rest m k L)=rest m k L
 |0,_,_,_,h=>absurd h (D1 _)
 |k+1,L,hlow,hl,h=>by
  simp only[rest]
  by_cases a:dq m L=L
  .rw[if_pos a,a]
  .rw[if_neg a]
   have:=uv hlow hl a
   exact su k _ (gt m L) (by rw[dz];exact hl) (by omega)
def Stable (m:Machine) (n:Nat) (E:Nat->Nat->Prop):Prop:=∀p q,p<n->q<n->E p q->m.Out.getD p []=m.Out.getD q []/\∀(i:Nat) a b,(m.Next.getD p [])[i]? =some a->(m.Next.getD q [])[i]? =some b->E a.toNat b.toNat
section
variable {l:Int}{n:Nat}{m:Machine}(hm:Mok l n m){E:Nat->Nat->Prop}(hE:Stable m n E)
include hm hE
theorem qG {L:VI}(hL:L.length=n) (h:∀p q,p<n->q<n->E p q->atL L p=atL L q):∀p q,p<n->q<n->E p q->atL (dq m L) p=atL (dq m L) q:=λp q hp f l=>by
 obtain⟨y,o⟩:=hE p q hp f l
 obtain⟨z,_,j,A,r⟩:=hm.nx p hp
 obtain⟨g,_,k,B,s⟩:=hm.nx q f
 rw[j,k]at o
 have t:=h p q hp f l
 have u:(m.Next.getD p []).map (atL L)=(m.Next.getD q []).map (atL L):=by
  rw[j,k]
  apply CY
  intro i
  rw[C3,C3]
  cases ha:z[i]? with
  |none=>
   rw[List.getElem?_eq_none_iff]at ha
   rw[D8 (by omega)]
  |some a=>
   have D:=(Cu.1 ha).1
   have e:g[i]? =some (g[i]'(by omega)):=ct (by omega)
   generalize g[i]'(by omega)=b at e
   rw[e]
   obtain⟨F,G⟩:=r a (Db ha)
   obtain⟨H,I⟩:=s b (Db e)
   have:=h a.toNat b.toNat (by omega) (by omega) (o i a b ha e)
   rw[show((a.toNat:Nat):Int)=a from by omega,show((b.toNat:Nat):Int)=b from by omega]at this
   simp[this]
 have hn:∀d,near m L d p=near m L d q:=λd=>by
  unfold near
  rw[t,y,u]
 rw[lL (by omega),lL (by omega)]
 congr 1
 obtain⟨C,v,w⟩:=gK m L p
 exact nQ (c:=λd=>near m L d q) (lc m L q) (by rw[← hn];exact v) (λi x=>by rw[← hn];exact w i x)
theorem coarse:∀(k:Nat) (L:VI),L.length=n->(∀p q,p<n->q<n->E p q->atL L p=atL L q)->∀p q,p<n->q<n->E p q->atL (rest m k L) p=atL (rest m k L) q
 |0,_,_,h=>h
 |k+1,L,hL,h=>by
  simp only[rest]
  split
  .exact h
  .exact coarse k _ (by rw[dz];exact hL) (qG hm hE hL h)
end
section
variable {l:Int}{n:Nat}{m:Machine}(hm:Mok l n m)
include hm
theorem wR:∃L,sM m=some L/\iG m=some L/\Low L/\L.length=n/\dq m L=L/\∀E,Stable m n E->∀p q,p<n->q<n->E p q->atL L p=atL L q:=by
 obtain⟨f,g⟩:=hm.hn
 have a:(De n (0:Int)).length=n:=by simp
 have d:left (De n 0)<2500:=by
  have:=rE (uA (low0 n) (by omega))
  unfold left;omega
 have c:left (dq m (De n 0))<2500:=by
  have:=rE (uA (gt m (De n 0)) (by rw[dz];omega))
  unfold left;omega
 refine⟨rest m 2500 (dq m (De n 0)),?_,?_,?_,?_,?_,?_⟩
 .unfold sM
  rw[hm.next,dg (by omega) rfl,D3,zU hm 2501 (2 ^ 64) _ a (low0 n) (by omega) (by omega),D3,rh]
  rw[show rest m 2501 (De n 0)=if dq m (De n 0)=De n 0 then De n 0 else rest m 2500 (dq m (De n 0)) from rfl]
  split
  .rename_i b;rw[b,zH b]
  .rfl
 .unfold iG
  rw[hm.next,dg (by omega) rfl,D3,a,Aq hm,D3,bU,zb hm 2500 (2 ^ 64) _ (by rw[dz];exact a) (gt _ _) (qK _ _) c (by omega),D3,rh]
 .exact(sv (m:=m) 2500 _ (gt m (De n 0))).1
 .have:=(sv (m:=m) 2500 _ (gt m (De n 0))).2
  rw[dz,a]at this
  exact this
 .exact su 2500 _ (gt m _) (by rw[dz];omega) c
 .intro E hE
  refine coarse hm hE 2500 _ (by rw[dz];exact a) (qG hm hE a λp q hp e _=>?_)
  unfold atL
  rw[bR,bR,D9,D9]
  split <;> split <;> rfl
end
theorem rK {m:Machine}{L:VI}(h:dq m L=L){q:Nat}(c:q<L.length):∃p:Nat,atL L q=(p:Int)/\p<=q/\near m L p q=true:=by
 obtain⟨a,b,d⟩:=gK m L q
 refine⟨_,?_,a,b⟩
 have:=lL (m:=m) c
 rw[h]at this
 exact this
def stepN (L:VI) (s:VI×VI) (x:Int):VI×VI:=(addN s.1 (atL L x),s.2++[db (addN s.1 (atL L x)) (atL L x)])
theorem rM {n:Nat}{L:VI}(hL:Low L) (hl:L.length=n) (hn:n<=48):∀(row:VI) (s:VI×VI),(∀a∈row,0<=a/\a<n)->Names n s.1 ->
 Names n (row.foldl (stepN L) s).1/\(row.foldl (stepN L) s).2.length=s.2.length+row.length/\∀(k:Nat) b,s.1[k]? =some b->(row.foldl (stepN L) s).1[k]? =some b
 | [],s,_,h=>⟨h,rfl,λ_ _ h=>h⟩
 |a::row,s,hr,h=>by
  obtain⟨m,o⟩:=hr a (DP ..)
  have c:=hL a.toNat (by omega)
  rw[show((a.toNat:Nat):Int)=a from by omega]at c
  obtain⟨d,e⟩:=h.add (u:=atL L a) c.1 (by omega)
  obtain⟨f,g,i⟩:=rM hL hl hn row (stepN L s a) (λl j=>hr l (C9 _ j)) d
  rw[List.foldl_cons]
  refine⟨f,?_,λk b hk=>i k b (e k b hk)⟩
  rw[g]
  simp[stepN];omega
section
variable {l:Int}{n:Nat}{m:Machine}(hm:Mok l n m){L:VI}(hL:Low L) (hl:L.length=n)
include hm hL hl
omit hm in
theorem zo {x:Int}(b:0<=x) (c:x<n):0<=atL L x/\atL L x<n:=by
 have a:=hL x.toNat (by omega)
 rw[show((x.toNat:Nat):Int)=x from by omega]at a
 omega
theorem Ca {c:VI}(i:Names n c){row:VI}(l:∀b∈row,0<=b/\b<n) (k:row.length<=4):cntM (ir L row) row.length 0 (c,[])=some (.inr (row.foldl (stepN L) (c,[]))):=by
 obtain⟨u,v⟩:=hm.hn
 refine(qn (f:=ir L row) (stepN L) (λj s=>Names n s.1/\s.2.length=j) (λj b s hj ⟨e,r⟩=>?_) ⟨i,rfl⟩).1
 obtain⟨g,p⟩:=l b (Db hj)
 obtain⟨m,o⟩:=zo hL hl g p
 have t:=(Cu.1 hj).1
 have k:=e.len
 obtain⟨d,q⟩:=e.add m o
 unfold ir
 rw[bT,hj,D3,kb g (by omega),D3,qJ,D3,zD]
 by_cases a:atL L b∈s.1
 .simp only[a,decide_true,DD,cond_false,D3]
  rw[app1 (by omega) rfl]
  refine⟨?_,d,by simp[stepN];omega⟩
  simp[stepN,addN,a]
 .simp only[a,decide_false,D4,cond_true,D3]
  rw[app1 (by omega) rfl,D3,D3]
  dsimp only
  rw[app1 (by omega) rfl]
  refine⟨?_,d,by simp[stepN];omega⟩
  simp[stepN,addN,a,tO a]
end
def Ext (A B:VI):Prop:=∀(k:Nat) v,A[k]? =some v->B[k]? =some v
theorem Ext.trans {A B C:VI}(b:Ext A B) (c:Ext B C):Ext A C:=λk a h=>c k a (b k a h)
theorem yE {N:VI}(h:N.Nodup){i j:Nat}{u:Int}(hi:N[i]? =some u) (hj:N[j]? =some u):i=j:=by
 have c:=(Cu.1 hi)
 have d:=(Cu.1 hj)
 obtain⟨e,a⟩:=c
 obtain⟨f,b⟩:=d
 exact(List.getElem_inj h).1 (by rw[a,b])
theorem n9 {N:VI}(h:N.Nodup){i:Nat}{u:Int}(hi:N[i]? =some u):db N u=(i:Int):=
 wb hi λj hj a=>by have:=yE h hi a;omega
theorem Af (A:VI) (u:Int):u∈addN A u:=by
 unfold addN
 split
 .assumption
 .simp
section
variable {l:Int}{n:Nat}{m:Machine}(hm:Mok l n m){L:VI}(hL:Low L) (hl:L.length=n)
include hm hL hl
theorem rL {row:VI}(d:∀a∈row,0<=a/\a<n){s:VI×VI}(hs:Names n s.1):Names n (row.foldl (stepN L) s).1/\Ext s.1 (row.foldl (stepN L) s).1:=by
 obtain⟨b,_,c⟩:=rM hL hl hm.hn.2 row s d hs
 exact⟨b,c⟩
theorem vB {N:VI}(e:N.Nodup):∀(row:VI) (s:VI×VI),(∀a∈row,0<=a/\a<n)->Names n s.1->Ext (row.foldl (stepN L) s).1 N ->
 (row.foldl (stepN L) s).2=s.2++row.map (λa=>db N (atL L a))/\(∀a∈row,atL L a∈N)
 | [],s,_,_,_=>by simp
 |a::row,s,hr,hs,he=>by
  obtain⟨q,r⟩:=hr a (DP ..)
  obtain⟨o,p⟩:=zo hL hl q r
  obtain⟨d,t⟩:=hs.add o p
  have j:∀b∈row,0<=b/\b<n:=λb c=>hr b (C9 _ c)
  rw[List.foldl_cons]at he ⊢
  obtain⟨u,k⟩:=rL hm hL hl j (s:=stepN L s a) d
  obtain⟨l,m⟩:=vB e row (stepN L s a) j d he
  obtain⟨i,g⟩:=List.mem_iff_getElem?.1 (Af s.1 (atL L a))
  have f:=he i _ (k i _ g)
  have hp:db (addN s.1 (atL L a)) (atL L a)=db N (atL L a):=by rw[n9 d.1 g,n9 e f]
  refine⟨?_,λb c=>?_⟩
  .rw[l]
   simp[stepN,hp]
  .rcases CB.1 c with rfl|c
   .exact Db f
   .exact m b c
abbrev RSt:=VI×Int×VV×VV
def rowN (m:Machine) (s:RSt):VI:=m.Next.getD (s.1.getD s.2.1.toNat 0).toNat []
def roundL (m:Machine) (L:VI) (s:RSt):RSt:=
 (((rowN m s).foldl (stepN L) (s.1,[])).1,s.2.1+1,s.2.2.1++[((rowN m s).foldl (stepN L) (s.1,[])).2],s.2.2.2++[m.Out.getD (s.1.getD s.2.1.toNat 0).toNat []])
def red (m:Machine) (L:VI):Nat->RSt
 |0=>([0],0,[],[])
 |k+1=>roundL m L (red m L k)
structure RI (n:Nat) (m:Machine) (L:VI) (k:Nat):Prop where
 names:Names n (red m L k).1
 rep:∀v∈(red m L k).1,atL L v=v
 at_:(red m L k).2.1=(k:Int)
 zero:(red m L k).1[0]? =some 0
 lx:(red m L k).2.2.1.length=k
 lo:(red m L k).2.2.2.length=k
 rows:∀N:VI,N.Nodup->Ext (red m L k).1 N->∀(j:Nat) v,j<k->(red m L k).1[j]? =some v->(red m L k).2.2.1[j]? =some ((m.Next.getD v.toNat []).map (λx=>db N (atL L x)))/\(red m L k).2.2.2[j]? =some (m.Out.getD v.toNat [])/\∀x∈m.Next.getD v.toNat [],atL L x∈N
variable (hfix:∀q:Nat,q<n->atL L (atL L q)=atL L q)
include hfix
omit hfix in
theorem ri0:RI n m L 0:=by
 obtain⟨g,i⟩:=hm.hn
 have h0:=hL 0 (by omega)
 have hn:Names n (red m L 0).1:=by
  refine⟨by show[(0:Int)].Nodup;simp,λf e=>?_⟩
  have:f=0:=by simpa [red] using e
  omega
 refine⟨hn,λa d=>?_,rfl,rfl,rfl,rfl,λN _ _ j a hj=>absurd hj (D1 j)⟩
 have:a=0:=by simpa [red] using d
 subst this
 have b:=h0.1
 have c:=h0.2
 simp only[Int.natCast_zero]at b c
 omega
omit hm hL hl hfix in
theorem zN {k:Nat}(h:RI n m L k){q:Int}(b:(red m L k).1[k]? =some q):0<=q/\q<n/\rowN m (red m L k)=m.Next.getD q.toNat []/\(red m L k).1.getD (red m L k).2.1.toNat 0=q:=by
 obtain⟨c,d⟩:=h.names.2 q (Db b)
 have a:(red m L k).1.getD (red m L k).2.1.toNat 0=q:=by
  rw[h.at_,DH,bR,b];rfl
 exact⟨c,d,by unfold rowN;rw[a],a⟩
theorem AV {k:Nat}(h:RI n m L k) (hk:k<(red m L k).1.length):RI n m L (k+1)/\Ext (red m L k).1 (red m L (k+1)).1:=by
 have l:(red m L k).1[k]? =some ((red m L k).1[k]'hk):=ct hk
 generalize(red m L k).1[k]'hk=q at l
 obtain⟨P,Q,i,B⟩:=zN h l
 obtain⟨f,R,K,S,M⟩:=hm.nx q.toNat (by omega)
 have o:∀d∈rowN m (red m L k),0<=d/\d<n:=by rw[i,K];exact M
 obtain⟨x,e⟩:=rL hm hL hl o (s:=((red m L k).1,[])) h.names
 have e:Ext (red m L k).1 (red m L (k+1)).1:=e
 refine⟨⟨x,λb c=>?_,?_,e 0 _ h.zero,?_,?_,?_⟩,e⟩
 · -- a new name is a kind
   have I:∀(f:VI) (s:VI×VI),(∀d∈f,0<=d/\d<n)->(∀b∈s.1,atL L b=b)->∀b∈(f.foldl (stepN L) s).1,atL L b=b:=λf=>by
    induction f with
    |nil=>intro s _ h;exact h
    |cons d f H=>
     intro s w h
     refine H (stepN L s d) (λO G=>w O (C9 _ G)) λb c=>?_
     have c:b∈addN s.1 (atL L d):=c
     unfold addN at c
     split at c
     .exact h b c
     .rw[CA,CC]at c
      rcases c with c|rfl
      .exact h b c
      .obtain⟨T,U⟩:=w d (DP ..)
       have:=hfix d.toNat (by omega)
       rw[show((d.toNat:Nat):Int)=d from by omega]at this
       exact this
   exact I _ _ o h.rep b c
 .show(red m L k).2.1+1=_
  rw[h.at_];omega
 .show((red m L k).2.2.1++[_]).length=_
  rw[Cw,h.lx];rfl
 .show((red m L k).2.2.2++[_]).length=_
  rw[Cw,h.lo];rfl
 .intro N u v j b hj c
  have C:Ext ((rowN m (red m L k)).foldl (stepN L) ((red m L k).1,[])).1 N:=v
  obtain⟨r,t⟩:=vB hm hL hl u (rowN m (red m L k)) ((red m L k).1,[]) o h.names C
  by_cases g:j<k
  .have E:(red m L k).1[j]? =some b:=by
    have D:j<(red m L k).1.length:=by omega
    have p:=ct D
    rw[p,← e j _ p,c]
   obtain⟨y,z,A⟩:=h.rows N u (Ext.trans e v) j b g E
   refine⟨?_,?_,A⟩
   .show((red m L k).2.2.1++[_])[j]? =_
    rw[CZ (by rw[h.lx];exact g)];exact y
   .show((red m L k).2.2.2++[_])[j]? =_
    rw[CZ (by rw[h.lo];exact g)];exact z
  .have g:j=k:=by omega
   subst g
   have F:b=q:=by
    have:=e j q l
    rw[c]at this
    exact Ds this
   subst F
   rw[i]at r t
   refine⟨?_,?_,t⟩
   .show((red m L j).2.2.1++[((rowN m (red m L j)).foldl (stepN L) ((red m L j).1,[])).2])[j]? =_
    rw[C0 (by rw[h.lx];exact CK _),h.lx,Nat.sub_self,i,r]
    simp
   .show((red m L j).2.2.2++[_])[j]? =_
    rw[C0 (by rw[h.lo];exact CK _),h.lo,Nat.sub_self,B]
    rfl
theorem AR:∃T:Nat,(∀k,k<=T->RI n m L k)/\(∀k,k<T->k<(red m L k).1.length)/\(red m L T).1.length=T/\∀k,k<=T->Ext (red m L k).1 (red m L T).1:=by
 have p:∀(d k:Nat),n+1-k<=d->RI n m L k->k<=(red m L k).1.length->∃T:Nat,k<=T/\(∀j,k<=j->j<=T->RI n m L j)/\(∀j,k<=j->j<T->j<(red m L j).1.length)/\(red m L T).1.length=T/\∀j,k<=j->j<=T->Ext (red m L j).1 (red m L T).1:=by
  intro d
  induction d with
  |zero=>intro k hd h hk;have:=h.names.len;omega
  |succ d r=>
   intro k hd h hk
   by_cases f:k<(red m L k).1.length
   .obtain⟨s,o⟩:=AV hm hL hl hfix h f
    have q:k+1<=(red m L (k+1)).1.length:=by
     have b:=ct f
     have:=(Cu.1 (o k _ b)).1
     omega
    obtain⟨T,t,g,i,l,e⟩:=r (k+1) (by omega) s q
    refine⟨T,by omega,λj c a=>?_,λj c a=>?_,l,λj c a=>?_⟩
    .by_cases b:j=k
     .rw[b];exact h
     .exact g j (by omega) a
    .by_cases b:j=k
     .rw[b];exact f
     .exact i j (by omega) a
    .by_cases b:j=k
     .rw[b];exact Ext.trans o (e (k+1) (CK _) t)
     .exact e j (by omega) a
   .refine⟨k,CK _,λj c a=>?_,λj c a=>by omega,by omega,λj c a=>?_⟩
    .rw[show j=k from by omega];exact h
    .rw[show j=k from by omega];exact λ_ _ h=>h
 obtain⟨T,_,g,i,l,e⟩:=p (n+1) 0 (by omega) (ri0 hm hL hl) (D2 _)
 exact⟨T,λk hk=>g k (D2 _) hk,λk hk=>i k (D2 _) hk,l,λk hk=>e k (D2 _) hk⟩
end
structure Kinds (n:Nat) (m:Machine) (L:VI) (N:VI) (r:Machine):Prop where
 names:Names n N
 rep:∀v∈N,atL L v=v
 zero:N[0]? =some 0
 nx:r.Next.length=N.length
 ou:r.Out.length=N.length
 rows:∀(k:Nat) v,N[k]? =some v->r.Next[k]? =some ((m.Next.getD v.toNat []).map (λx=>db N (atL L x)))/\r.Out[k]? =some (m.Out.getD v.toNat [])/\∀x∈m.Next.getD v.toNat [],atL L x∈N
section
variable {l:Int}{n:Nat}{m:Machine}(hm:Mok l n m){L:VI}(hL:Low L) (hl:L.length=n) (hfix:∀q:Nat,q<n->atL L (atL L q)=atL L q)
include hm hL hl hfix
omit hfix in
theorem ul {k:Nat}(h:RI n m L k) (hk:k<(red m L k).1.length):dE m L (red m L k)=some (.inr (.inr (red m L (k+1)))):=by
 obtain⟨E,F⟩:=hm.hn
 obtain⟨C,D⟩:=hm.hl
 have b:(red m L k).1[k]? =some ((red m L k).1[k]'hk):=ct hk
 generalize(red m L k).1[k]'hk=q at b
 obtain⟨c,H,e,f⟩:=zN h b
 obtain⟨a,w,x,I,d⟩:=hm.nx q.toNat (by omega)
 obtain⟨out,u,v,G⟩:=hm.ou q.toNat (by omega)
 have z:=h.names.len
 have t:idx m.Next q=some a:=by rw[cH c];exact w
 have o:idx m.Out q=some out:=by rw[cH c];exact u
 have r:rowN m (red m L k)=a:=by rw[e,x]
 obtain⟨y,g⟩:=rL hm hL hl d (s:=((red m L k).1,[])) h.names
 have j:idx (red m L k).1 (red m L k).2.1=some q:=by rw[h.at_,bT];exact b
 have i:idx (a.foldl (stepN L) ((red m L k).1,[])).1 (red m L k).2.1=some q:=by rw[h.at_,bT];exact g k q b
 have l:(red m L k).2.1<((red m L k).1.length:Int):=by rw[h.at_];omega
 have A:=h.lx
 have B:=h.lo
 have p:red m L (k+1)=((a.foldl (stepN L) ((red m L k).1,[])).1,(red m L k).2.1+1,(red m L k).2.2.1++[(a.foldl (stepN L) ((red m L k).1,[])).2],(red m L k).2.2.2++[out]):=by
  show roundL m L (red m L k)=_
  unfold roundL
  rw[r,f,v]
 unfold dE
 simp only[l,decide_true,cond_true,j,t,D3,Ca hm hL hl h.names d (by omega:a.length<=4),bU,i,o]
 rw[app1 (by omega) rfl,appL (by rw[DO];omega) rfl]
 simp only[D3,Er]
 rw[app1 (by omega) rfl,D3,wr' (by rw[h.at_];omega) (by rw[h.at_];omega),p]
theorem AA:∃N r,Dl (cd (dE m L) (2 ^ 64) ((([0]:VI):VI),(0:Int),([]:VV),([]:VV))) (λo=>
 aft (λr=>some r) (λe=>some ((⟨e.2.2.1,e.2.2.2⟩:Machine):Machine)) o)=some r/\Kinds n m L N r:=by
 obtain⟨t,u⟩:=hm.hn
 obtain⟨T,g,p,b,v⟩:=AR hm hL hl hfix
 have a:=g T (CK _)
 have s:=a.names.len
 have hK:Kinds n m L (red m L T).1 ⟨(red m L T).2.2.1,(red m L T).2.2.2⟩:=by
  refine⟨a.names,a.rep,a.zero,by dsimp only;rw[a.lx,b],by dsimp only;rw[a.lo,b],λk q hk=>?_⟩
  have d:=(Cu.1 hk).1
  exact a.rows _ a.names.1 (λ_ _ h=>h) k q (by omega) hk
 refine⟨(red m L T).1,⟨(red m L T).2.2.1,(red m L T).2.2.2⟩,?_,hK⟩
 .have c:=xF (f:=dE m L) (red m L) T (2 ^ 64-T) (λk hk=>ul hm hL hl (g k (by omega)) (p k hk))
  rw[show T+(2 ^ 64-T)=2 ^ 64 from by omega]at c
  rw[show(([0]:VI),(0:Int),([]:VV),([]:VV))=red m L 0 from rfl,c]
  obtain⟨i,l⟩:∃i,2 ^ 64-T=i+1:=⟨2 ^ 64-T-1,by omega⟩
  rw[l]
  have j:dE m L (red m L T)=some (.inr (.inl (red m L T))):=by
   unfold dE
   have d:¬(red m L T).2.1<((red m L T).1.length:Int):=by rw[a.at_,b];omega
   simp only[d,decide_false,cond_false]
  show Dl (Dl (dE m L (red m L T)) _) _=_
  rw[j]
  rfl
end
theorem Bh {m:Machine}{L:VI}{n:Nat}(hl:L.length=n) (h:dq m L=L):∀q:Nat,q<n->atL L (atL L q)=atL L q:=λq b=>by
 obtain⟨p,a,c,hn⟩:=rK h (by omega:q<L.length)
 rw[a]
 exact(p6 hn).1.trans a
def Rel (n:Nat) (L N:VI) (i:Nat) (q:Int):Prop:=0<=q/\q<n/\N[i]? =some (atL L q)
section
variable {p:Sig}{m:Machine}(hs:sigOk p=true) (hmo:machOk p m=true){L:VI}(hL:Low L) (hl:L.length=m.Next.length) (hf:dq m L=L){N:VI}{r:Machine}(hK:Kinds m.Next.length m L N r)
include hmo hL hl hf hK
omit hL in
theorem AS {i:Nat}{q:Int}(F:Rel m.Next.length L N i q){x:Int}(g:0<=x) (B:x<pw p.In):∃(n a o:VI) (f:Nat),idx r.Next i=some n/\idx r.Out i=some o/\idx m.Out q=some o/\idx m.Next q=some a /\
 idx n x=some (f:Int)/\idx a x=some (tab m.Next q x)/\idx o x=some (tab m.Out q x)/\Rel m.Next.length L N f (tab m.Next q x)/\(n.length:Int)=pw p.In:=by
 obtain⟨c,P,G⟩:=F
 obtain⟨W,X,Y,w,M⟩:=dm hmo
 obtain⟨a,d,s,Q,R⟩:=mJ w c P g B
 obtain⟨o,l,O,Z,aa⟩:=mJ M c (by omega) g B
 obtain⟨b,u,V,hn⟩:=rK hf (by omega:q.toNat<L.length)
 rw[show((q.toNat:Nat):Int)=q from by omega]at u
 obtain⟨z,t,A⟩:=hK.rows i _ G
 rw[u,DH]at z t A
 simp only[near,rx,decide_eq_true_eq]at hn
 obtain⟨_,K,k⟩:=hn
 have D:m.Next.getD q.toNat []=a:=by rw[cH c]at d;rw[bR,d];rfl
 have C:m.Out.getD q.toNat []=o:=by rw[cH c]at l;rw[bR,l];rfl
 have I:(a.length:Int)=pw p.In:=by
  rw[cH c]at d
  exact(w a (Db d)).1
 rw[D]at k
 rw[K,C]at t
 have H:(m.Next.getD b []).length=a.length:=by
  have:=congrArg List.length k
  simpa using this
 have e:x.toNat<(m.Next.getD b []).length:=by omega
 have j:(m.Next.getD b [])[x.toNat]? =some ((m.Next.getD b [])[x.toNat]'e):=ct e
 have v:=A _ (En e)
 generalize(m.Next.getD b [])[x.toNat]'e=y at j v
 obtain⟨f,T,ab,U⟩:=p9 v
 have E:atL L y=atL L (tab m.Next q x):=by
  have:=congrArg (λS=>S[x.toNat]?) k
  simp only[C3,j]at this
  rw[cH g]at s
  rw[s]at this
  simpa using this
 refine⟨_,a,o,f,by rw[bT];exact z,by rw[bT];exact t,l,d,?_,s,O,⟨Q,R,by rw[← E];exact U⟩,?_⟩
 .rw[cH g,C3,j]
  simp[T]
 .rw[DM,H];exact I
omit hf in
theorem rel0:Rel m.Next.length L N 0 0:=by
 obtain⟨a,_⟩:=dm hmo
 refine⟨by omega,by omega,?_⟩
 have:=hL 0 (by omega)
 simp only[Int.natCast_zero]at this
 rw[show atL L 0=0 from by omega]
 exact hK.zero
omit hL hl hf in
theorem zi:machOk p r=true:=by
 obtain⟨G,H,I,s,t⟩:=dm hmo
 have D:=hK.names.len
 have C:1<=N.length:=by have:=(Cu.1 hK.zero).1;omega
 have hn:=hK.nx
 have n:=hK.ou
 unfold machOk
 rw[hn,n]
 simp only[rx,decide_eq_true_eq,beq_self_eq_true,and_true,DI]
 refine⟨by omega,λy b=>?_⟩
 obtain⟨u,i⟩:=y
 rw[List.mem_zipIdx_iff_getElem?]at b
 have b:r.Next[i]? =some u:=b
 have E:=(Cu.1 b).1
 have e:N[i]? =some (N[i]'(by omega)):=ct (by omega)
 have o:=hK.names.2 _ (En (by omega:i<N.length))
 generalize N[i]'(by omega)=v at e o
 obtain⟨a,w,x⟩:=hK.rows i v e
 rw[b]at a
 have a:=Ds a
 have f:v.toNat<m.Next.length:=by omega
 have g:v.toNat<m.Out.length:=by omega
 have c:m.Next.getD v.toNat []=m.Next[v.toNat]:=by simp[f]
 have d:m.Out.getD v.toNat []=m.Out[v.toNat]:=by simp[g]
 obtain⟨k,A⟩:=s _ (En f)
 obtain⟨B,l⟩:=t _ (En g)
 unfold rowOk
 rw[w]
 simp only[rx,beq_iff_eq,DI,gE]
 refine⟨⟨⟨by rw[a,DM,c];exact k,by rw[a,DM,c,d];omega⟩,λK j=>?_⟩,by rw[d];exact l⟩
 rw[a,Da]at j
 obtain⟨z,q,rfl⟩:=j
 obtain⟨F,L,M,O⟩:=p9 (x z q)
 rw[hn]
 omega
end
end Go.Proofs.YtleekpaohfpooaaGreat
