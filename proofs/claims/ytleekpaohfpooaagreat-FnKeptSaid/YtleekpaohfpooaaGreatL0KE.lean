/- Plain laws: two loops side by side, bits, Boolean chains. -/
import Derived.Test.YtleekpaohfpooaaGreatLwKE
import Derived.Test.YtleekpaohfpooaaGreatLawKE
set_option linter.unusedVariables false
set_option linter.unusedSimpArgs false
open Option renaming bind → bC, bind_some → bE
open List renaming getElem?_eq_getElem → gs, getElem?_eq_some_iff → hV, replicate → sh, mem_of_getElem? → yB, length_append → yK, mem_singleton → yM, length_cons → yO, length_take → yP, length_nil → yQ, mem_append → yT, take_add_one → yU, length_map → yW
open Bool renaming and_eq_true → yH, not_true → yJ, eq_iff_iff → yR
open Int renaming toNat_natCast → yN
namespace Go.Proofs.YtleekpaohfpooaaGreat
open Go Go.Wk Go.Proofs
theorem orE (b c:Bool):(bif b then some true else some c)=some (b||c):=by cases b <;> rfl
theorem andE (b c:Bool):(bif b then some c else some false)=some (b&&c):=by cases b <;> rfl
theorem pu {ρ ρ' σ τ:Type}{f:Int->σ->Option (ρ⊕(σ⊕σ))}{g:Int->τ->Option (ρ'⊕(τ⊕τ))}(R:Nat->σ->τ->Prop) (O:ρ->ρ'->Prop) (B:σ->τ->Prop) (N:Nat)
 (step:∀(j:Nat) s t,j<N->R j s t->∃o p,f j s=some o/\g j t=some p/\(match o,p with
  | .inl r,.inl r'=>O r r'
  | .inr (.inl s'),.inr (.inl t')=>B s' t'
  | .inr (.inr s'),.inr (.inr t')=>R (j+1) s' t'
  | _,_=>False)):
 ∀(k j:Nat) (s:σ) (t:τ),j+k=N->R j s t->∃o p,cntM f k j s=some o/\cntM g k j t=some p/\(match o,p with
  | .inl r,.inl r'=>O r r'
  | .inr s',.inr t'=>R N s' t'\/B s' t'
  | _,_=>False)
 | 0,j,s,t,hj,h=>⟨.inr s,.inr t,rfl,rfl,.inl (by rw[← hj];exact h)⟩
 | k+1,j,s,t,hj,h=>by
  obtain⟨o,p,ho,hp,hm⟩:=step j s t (by omega) h
  show ∃o p,bC (f j s) _=some o/\bC (g j t) _=some p/\_
  rw[ho,hp]
  match o,p,hm with
  | .inl r,.inl r',hm=>exact⟨.inl r,.inl r',rfl,rfl,hm⟩
  | .inr (.inl s'),.inr (.inl t'),hm=>exact⟨.inr s',.inr t',rfl,rfl,.inr hm⟩
  | .inr (.inr s'),.inr (.inr t'),hm=>
   obtain⟨o',p',h1,h2,h3⟩:=pu R O B N step k (j+1) s' t' (by omega) hm
   exact⟨o',p',h1,h2,h3⟩
theorem rJ {ρ ρ' σ τ:Type}{f:Int->σ->Option (ρ⊕(σ⊕σ))}{g:Int->τ->Option (ρ'⊕(τ⊕τ))}(R:Nat->σ->τ->Prop) (N:Nat){s:σ}{t:τ}(h0:R 0 s t)
 (step:∀(j:Nat) s t,j<N->R j s t->∃s' t',f j s=some (.inr (.inr s'))/\g j t=some (.inr (.inr t'))/\R (j+1) s' t'):
 ∃s' t',cntM f N 0 s=some (.inr s')/\cntM g N 0 t=some (.inr t')/\R N s' t':=by
 obtain⟨o,p,h1,h2,h3⟩:=pu (f:=f) (g:=g) R (λ_ _=>False) (λ_ _=>False) N (λj s t hj hr=>by
  obtain⟨s',t',h4,h5,h6⟩:=step j s t hj hr
  exact⟨_,_,h4,h5,h6⟩) N 0 s t (by omega) h0
 match o,p,h3 with
 | .inr s',.inr t',h3=>exact⟨s',t',h1,h2,h3.resolve_right id⟩
theorem kF {ρ α:Type}{f:Int->Unit->Option (ρ⊕(Unit⊕Unit))}{r:ρ}(g:Nat->α->Bool){xs:List α}{n:Nat}(hn:n=xs.length) (h:∀(i:Nat) x,xs[i]? =some x->f (i:Int) ()=some (if g i x then .inr (.inr ()) else .inl r)):
 cntM f n 0 ()=some (if xs.zipIdx.all (λp=>g p.2 p.1) then .inr () else .inl r):=by
 subst hn
 have:=cP (f:=f) (r:=r) (λp:α×Nat=>g p.2 p.1) (xs:=xs.zipIdx) (n:=xs.length) (by simp) (λi x hx=>by
  rw[List.getElem?_zipIdx]at hx
  cases hy:xs[i]? with
  | none=>rw[hy]at hx;cases hx
  | some y=>
   rw[hy]at hx
   simp at hx
   subst hx
   exact h i y hy)
 exact this
theorem cB {ρ σ:Type}{f:σ->Option (ρ⊕(σ⊕σ))}(I:Nat->σ->Prop) (R:ρ->Prop) (B:σ->Prop) (N:Nat)
 (step:∀(j:Nat) s,I j s->∃o,f s=some o/\(match o with
  | .inl r=>R r
  | .inr (.inl s')=>B s'
  | .inr (.inr s')=>j<N/\I (j+1) s')):
 ∀(k j:Nat) (s:σ),N<k+j->I j s->(0<k)->∃o,ca f k s=some o/\(match o with
  | .inl r=>R r
  | .inr s'=>B s')
 | 0,_,_,_,_,h=>absurd h (Nat.lt_irrefl 0)
 | k+1,j,s,hk,h,_=>by
  obtain⟨o,ho,hm⟩:=step j s h
  show ∃o,bC (f s) _=some o/\_
  rw[ho]
  match o,hm with
  | .inl r,hm=>exact⟨.inl r,rfl,hm⟩
  | .inr (.inl s'),hm=>exact⟨.inr s',rfl,hm⟩
  | .inr (.inr s'),hm=>
   obtain⟨o',h1,h2⟩:=cB I R B N step k (j+1) s' (by omega) hm.2 (by omega)
   exact⟨o',h1,h2⟩
theorem ot {ρ ρ' σ τ:Type}{f:σ->Option (ρ⊕(σ⊕σ))}{g:τ->Option (ρ'⊕(τ⊕τ))}(R:σ->τ->Prop) (μ:σ->Nat) (O:ρ->ρ'->Prop) (B:σ->τ->Prop)
 (step:∀s t,R s t->∃o p,f s=some o/\g t=some p/\(match o,p with
  | .inl r,.inl r'=>O r r'
  | .inr (.inl s'),.inr (.inl t')=>B s' t'
  | .inr (.inr s'),.inr (.inr t')=>R s' t'/\μ s'<μ s
  | _,_=>False)):
 ∀(k k':Nat) (s:σ) (t:τ),μ s<k->μ s<k'->R s t->∃o p,ca f k s=some o/\ca g k' t=some p/\(match o,p with
  | .inl r,.inl r'=>O r r'
  | .inr s',.inr t'=>B s' t'
  | _,_=>False)
 | 0,_,_,_,h,_,_=>absurd h (Nat.not_lt_zero _)
 | _,0,_,_,_,h,_=>absurd h (Nat.not_lt_zero _)
 | k+1,k'+1,s,t,hk,hk',h=>by
  obtain⟨o,p,ho,hp,hm⟩:=step s t h
  show ∃o p,bC (f s) _=some o/\bC (g t) _=some p/\_
  rw[ho,hp]
  match o,p,hm with
  | .inl r,.inl r',hm=>exact⟨.inl r,.inl r',rfl,rfl,hm⟩
  | .inr (.inl s'),.inr (.inl t'),hm=>exact⟨.inr s',.inr t',rfl,rfl,hm⟩
  | .inr (.inr s'),.inr (.inr t'),hm=>
   obtain⟨o',p',h1,h2,h3⟩:=ot R μ O B step k k' s' t' (by omega) (by omega) hm.1
   exact⟨o',p',h1,h2,h3⟩
def b2i (b:Bool):Int:=if b then 1 else 0
theorem ew {z:Int}(h:0<=z):∃n:Nat,z=n:=⟨z.toNat,by omega⟩
theorem appL {α:Type}{b:Nat}{xs ys:List α}(h:xs.length+ys.length<=100000000000) (hb:Nat.ble b 1024=true):appS b xs ys=some (xs++ys):=by
 have hb:=Nat.ble_eq.mp hb
 have:(xs.length+ys.length) * b<=100000000000 * 1024:=Nat.mul_le_mul h hb
 unfold appS
 rw[if_pos (by omega)]
theorem app1 {α:Type}{b:Nat}{xs:List α}{x:α}(h:xs.length<=10000000000) (hb:Nat.ble b 1024=true):appS b xs [x]=some (xs++[x]):=appL (by simp only[yO,yQ];omega) hb
theorem iI {α:Type}{xs:List α}{z:Int}(h0:0<=z) (h1:z<xs.length):∃x,idx xs z=some x/\x∈xs:=by
 have hz:z.toNat<xs.length:=by omega
 exact⟨xs[z.toNat],by rw[cE h0];simp[hz],by simp⟩
def RowIn (n:Int) (l:Int) (row:List Int):Prop:=(row.length:Int)=l/\∀x∈row,0<=x/\x<n
def tab (t:List (List Int)) (q i:Int):Int:=(t.getD q.toNat []).getD i.toNat 0
theorem lj {t:List (List Int)}{n l:Int}(h:∀row∈t,RowIn n l row){q i:Int}(q0:0<=q) (q1:q<t.length) (i0:0<=i) (i1:i<l):
 ∃row,idx t q=some row/\idx row i=some (tab t q i)/\0<=tab t q i/\tab t q i<n:=by
 obtain⟨row,h1,h2⟩:=iI (xs:=t) q0 q1
 obtain⟨h3,h4⟩:=h row h2
 obtain⟨x,h5,h6⟩:=iI (xs:=row) i0 (by omega)
 have e:tab t q i=x:=by
  unfold tab
  rw[cE q0]at h1
  rw[cE i0]at h5
  rw[List.getD_eq_getElem?_getD,List.getD_eq_getElem?_getD,h1,Option.getD_some,h5,Option.getD_some]
 rw[e]
 exact⟨row,h1,h5,h4 x h6⟩
theorem qQ {ρ σ α:Type}{f:Int->σ->Option (ρ⊕(σ⊕σ))}(g:σ->α->σ) (I:Nat->σ->Prop){xs:List α}
 (h:∀(i:Nat) x s,xs[i]? =some x->I i s->f (i:Int) s=some (.inr (.inr (g s x)))/\I (i+1) (g s x)) {s:σ} (h0:I 0 s):
 cntM f xs.length 0 s=some (.inr (xs.foldl g s))/\I xs.length (xs.foldl g s):=by
 obtain⟨s',h1,h2,h3⟩:=bX (f:=f) (λj t=>t=(xs.take j).foldl g s/\I j t) xs.length (s:=s) ⟨by simp,h0⟩ λj t hj ⟨ht,hI⟩=>by
  have hx:xs[j]? =some xs[j]:=by simp[hj]
  obtain⟨h1,h2⟩:=h j _ t hx hI
  refine⟨_,h1,?_,h2⟩
  rw[yU,hx,List.foldl_append,← ht]
  rfl
 rw[h1,h2,List.take_length]
 rw[h2,List.take_length]at h3
 exact⟨rfl,h3⟩
end Go.Proofs.YtleekpaohfpooaaGreat
set_option linter.unusedVariables false
set_option linter.unusedSimpArgs false
namespace Go.Proofs.YtleekpaohfpooaaGreat
open Go Go.Wk Go.Proofs
def inR (n x:Int):Bool:=decide (0<=x)&&decide (x<n)
theorem cQ {n x:Int}:inR n x=true↔0<=x/\x<n:=by unfold inR;simp
theorem uq (n x:Int):(decide (0<=x)&&decide (x<=n-1))=inR n x:=by
 unfold inR
 congr 1
 exact decide_eq_decide.2 (by omega)
theorem qY (n x:Int):(decide (x<0)||decide (n<=x))= !(inR n x):=by
 unfold inR
 by_cases h1:x<0 <;> by_cases h2:n<=x <;> simp[h1,h2] <;> omega
theorem in2 (o:Int):(decide (0<=o)&&decide (o<=1))=inR 2 o:=by
 unfold inR;congr 1;exact decide_eq_decide.2 (by omega)
theorem in41 (o:Int):(decide (0<=o)&&decide (o<=40))=inR 41 o:=by
 unfold inR;congr 1;exact decide_eq_decide.2 (by omega)
theorem ov (a b:Int):decide (a<b)= !decide (b<=a):=by rw[← decide_not];exact decide_eq_decide.2 (by omega)
theorem dc (a b c:Int):eI a b c=some (decide (b<=a)&&decide (a<=c)):=by
 unfold eI
 by_cases h:b<=a <;> simp[h]
theorem cW:∀(n:Nat) (xs:List Int),xs.Nodup->(∀x∈xs,0<=x/\x<n)->xs.length<=n
 | 0,[],_,_=>by simp
 | 0,x::xs,_,h=>by have:=h x (List.mem_cons_self ..);omega
 | n+1,xs,hn,h=>by
  by_cases hm:(n:Int)∈xs
  · have h1:=List.length_erase_of_mem hm
    have h2:=cW n (xs.erase (n:Int)) (hn.erase _) (λx hx=>by
     rw[hn.mem_erase_iff]at hx
     have:=h x hx.2
     have:=hx.1
     omega)
    omega
  · have:=cW n xs hn (λx hx=>by
     have h3:=h x hx
     have:x≠n:=λe=>hm (e ▸ hx)
     omega)
    omega
end Go.Proofs.YtleekpaohfpooaaGreat
set_option linter.unusedVariables false
set_option linter.unusedSimpArgs false
namespace Go.Proofs.YtleekpaohfpooaaGreat
open Go Go.Wk Go.Proofs
def stepUp (n:Int) (xs:List Int) (i:Nat) (x:Int):Bool:=inR n x&&(!decide (0<i)||(match xs[i-1]? with | some y=>decide (y<x) | none=>false))
def cK (n:Int) (xs:List Int):Bool:=xs.zipIdx.all (λp=>stepUp n xs p.2 p.1)
theorem lC {n:Int}{xs:List Int}(h:cK n xs=true):(∀(i:Nat) x,xs[i]? =some x->0<=x/\x<n)/\∀(i:Nat) x y,xs[i]? =some x->xs[i+1]? =some y->x<y:=by
 unfold cK at h
 rw[List.all_eq_true]at h
 refine⟨λi x hx=>?_,λi x y hx hy=>?_⟩
 · have:=h (x,i) (List.mem_zipIdx_iff_getElem?.2 hx)
   unfold stepUp at this
   rw[yH]at this
   exact cQ.1 this.1
 · have:=h (y,i+1) (List.mem_zipIdx_iff_getElem?.2 hy)
   unfold stepUp at this
   simp only[Nat.add_sub_cancel,hx]at this
   have h2:=((yH _ _).mp this).2
   simp at h2
   exact h2
theorem sq {n:Int}{xs:List Int}(h:cK n xs=true):∀(i:Nat) x,xs[i]? =some x->(i:Int)<=x
 | 0,x,hx=>by have:=((lC h).1 0 x hx).1;omega
 | i+1,x,hx=>by
  have hi:i<xs.length:=by have:=(hV.1 hx).1;omega
  have hy:xs[i]? =some xs[i]:=by simp[hi]
  have:=sq h i _ hy
  have:=(lC h).2 i _ _ hy hx
  omega
theorem vk {n:Int}{xs:List Int}(h:cK n xs=true) (h0:0<=n):(xs.length:Int)<=n:=by
 by_cases he:xs.length=0
 · omega
 · have hx:xs[xs.length-1]? =some (xs[xs.length-1]'(by omega)):=gs (by omega)
   have:=sq h _ _ hx
   have:=((lC h).1 _ _ hx).2
   omega
theorem sM {xs:List Int}{i:Nat}(hi:i<xs.length) (h:0<i):∃y,idx xs (IntKind.i64.wrap ((i:Int)-1))=some y/\xs[i-1]? =some y\/1000000000<=i:=by
 by_cases hb:1000000000<=i
 · exact⟨0,.inr hb⟩
 · refine⟨xs[i-1]'(by omega),.inl ⟨?_,gs (by omega)⟩⟩
   rw[wr' (by omega) (by omega),show((i:Int)-1)=((i-1:Nat):Int) from by omega,bH]
   exact gs (by omega)
theorem rF {xs:List Int}{n:Int}(h0:0<=n) (h1:n<=1000000000) (hl:xs.length<=1000000000):kY xs n=some (cK n xs):=by
 unfold kY
 rw[kF (f:=ib xs n) (r:=false) (stepUp n xs) (xs:=xs) rfl (λi x hx=>by
  have hi:=(hV.1 hx).1
  unfold ib stepUp
  rw[bH,hx]
  simp only[bE,wr' (z:=n-1) (by omega) (by omega),dc,uq]
  cases inR n x with
  | false=>rfl
  | true=>
   by_cases hi0:0<i
   · obtain⟨y,⟨e1,e2⟩ | e⟩:=sM hi hi0
     · have e3:decide (x<=y)= !decide (y<x):=by rw[← decide_not];exact decide_eq_decide.2 (by omega)
       simp only[e1,e2,show(0:Int)<(i:Int) from by omega,hi0,decide_true,yJ,cond_false,cond_true,bE,e3,Bool.true_and,Bool.false_or]
       cases decide (y<x) <;> rfl
     · omega
   · have:¬(0:Int)<(i:Int):=by omega
     simp[hi0,this])]
 unfold cK
 cases List.all xs.zipIdx (λp=>stepUp n xs p.2 p.1) <;> rfl
theorem jO {xs:List Int}{n:Int}(h0:0<=n) (h1:n<=1000000000) (hl:xs.length<=1000000000):kl xs n=some (cK n xs):=by
 unfold kl
 rw[rF h0 h1 hl]
 by_cases h:(xs.length:Int)<=n
 · simp[h]
 · have:cK n xs=false:=by
    cases hs:cK n xs with
    | false=>rfl
    | true=>exact absurd (vk hs h0) h
   simp[h,this]
theorem j5 {xs:List Int}{n:Int}(hl:xs.length<=1000000000):js xs n=some (cK n xs):=by
 unfold js
 rw[kF (f:=j8 xs n) (r:=false) (stepUp n xs) (xs:=xs) rfl (λi x hx=>by
  have hi:=(hV.1 hx).1
  unfold j8 stepUp
  rw[bH,hx]
  simp only[bE,orE,qY]
  cases inR n x with
  | false=>rfl
  | true=>
   by_cases hi0:0<i
   · obtain⟨y,⟨e1,e2⟩ | e⟩:=sM hi hi0
     · have e3:decide (x<=y)= !decide (y<x):=by rw[← decide_not];exact decide_eq_decide.2 (by omega)
       simp only[e1,e2,show(0:Int)<(i:Int) from by omega,hi0,decide_true,yJ,cond_false,cond_true,bE,e3,Bool.true_and,Bool.false_or]
       cases decide (y<x) <;> rfl
     · omega
   · have:¬(0:Int)<(i:Int):=by omega
     simp[hi0,this])]
 unfold cK
 cases List.all xs.zipIdx (λp=>stepUp n xs p.2 p.1) <;> rfl
end Go.Proofs.YtleekpaohfpooaaGreat
set_option linter.unusedVariables false
set_option linter.unusedSimpArgs false
namespace Go.Proofs.YtleekpaohfpooaaGreat
open Go Go.Wk Go.Proofs
abbrev Asc (xs:List Int):Prop:=xs.Pairwise (· < ·)
theorem rV:∀{xs ys:List Int},Asc xs->Asc ys->(∀z,z∈xs↔z∈ys)->xs=ys
 | [],[],_,_,_=>rfl
 | [],y::ys,_,_,h=>by have:=(h y).2 (List.mem_cons_self ..);cases this
 | x::xs,[],_,_,h=>by have:=(h x).1 (List.mem_cons_self ..);cases this
 | x::xs,y::ys,hx,hy,h=>by
  have hx':=List.pairwise_cons.1 hx
  have hy':=List.pairwise_cons.1 hy
  have e:x=y:=by
   have h1:=(h x).1 (List.mem_cons_self ..)
   have h2:=(h y).2 (List.mem_cons_self ..)
   rcases List.mem_cons.1 h1 with h1 | h1
   · exact h1
   · rcases List.mem_cons.1 h2 with h2 | h2
     · exact h2.symm
     · have:=hx'.1 y h2
       have:=hy'.1 x h1
       omega
  subst e
  congr 1
  refine rV hx'.2 hy'.2 λz=>?_
  have hz:=h z
  rw[List.mem_cons,List.mem_cons]at hz
  constructor
  · intro hm
    have:=hx'.1 z hm
    rcases hz.1 (.inr hm) with e | hm'
    · omega
    · exact hm'
  · intro hm
    have:=hy'.1 z hm
    rcases hz.2 (.inr hm) with e | hm'
    · omega
    · exact hm'
theorem wv:∀{xs:List Int},(∀(i:Nat) x y,xs[i]? =some x->xs[i+1]? =some y->x<y)->Asc xs
 | [],_=>List.Pairwise.nil
 | [x],_=>by simp
 | x::y::r,h=>by
  have ih:=wv (xs:=y::r) (λi a b ha hb=>h (i+1) a b ha hb)
  have hxy:=h 0 x y rfl rfl
  refine List.pairwise_cons.2 ⟨λz hz=>?_,ih⟩
  rcases List.mem_cons.1 hz with rfl | hz
  · exact hxy
  · have:=(List.pairwise_cons.1 ih).1 z hz
    omega
theorem fd {n:Int}{xs:List Int}:cK n xs=true↔(∀x∈xs,0<=x/\x<n)/\Asc xs:=by
 constructor
 · intro h
   obtain⟨h1,h2⟩:=lC h
   refine⟨λx hx=>?_,wv h2⟩
   obtain⟨i,hi⟩:=List.mem_iff_getElem?.1 hx
   exact h1 i x hi
 · rintro⟨h1,h2⟩
   unfold cK
   rw[List.all_eq_true]
   rintro⟨x,i⟩ hx
   have hx:=List.mem_zipIdx_iff_getElem?.1 hx
   dsimp only at hx ⊢
   unfold stepUp
   rw[yH]
   refine⟨cQ.2 (h1 x (yB hx)),?_⟩
   by_cases hi:0<i
   · have hlt:=(hV.1 hx).1
     have hy:xs[i-1]? =some (xs[i-1]'(by omega)):=gs (by omega)
     have:=List.pairwise_iff_getElem.1 h2 (i-1) i (by omega) hlt (by omega)
     rw[(hV.1 hx).2]at this
     rw[hy]
     simp[this]
   · simp[hi]
theorem qW {xs:List Int}(h:Asc xs){i j:Nat}{x y:Int}(hi:xs[i]? =some x) (hj:xs[j]? =some y) (hij:i<j):x<y:=by
 obtain⟨h1,e1⟩:=hV.1 hi
 obtain⟨h2,e2⟩:=hV.1 hj
 rw[← e1,← e2]
 exact List.pairwise_iff_getElem.1 h i j h1 h2 hij
theorem iG {xs:List Int}(h:Asc xs):xs.Nodup:=List.Pairwise.imp (λh e=>by omega) h
theorem vL {xs:List Int}(h:xs.Nodup):Asc (xs.mergeSort λx y=>decide (x<=y)):=by
 have h1:(xs.mergeSort λx y=>decide (x<=y)).Pairwise (λa b=>decide (a<=b)=true):=List.pairwise_mergeSort (λa b c h1 h2=>by simp only[decide_eq_true_eq]at *;omega) (λa b=>by simp only[Bool.or_eq_true,decide_eq_true_eq];omega) xs
 have h2:(xs.mergeSort λx y=>decide (x<=y)).Nodup:=(List.mergeSort_perm xs _).nodup_iff.2 h
 have h3:=List.Pairwise.and h1 h2
 exact h3.imp λ⟨ha,hb⟩=>by
  simp only[decide_eq_true_eq]at ha
  have:∀{a b:Int},a<=b->a≠b->a<b:=λh1 h2=>by omega
  exact this ha hb
def ins (n:Int) (xs:List Int):List Int:=xs.filter (λx=>decide (x<n))++n::xs.filter (λx=>decide (n<x))
theorem pi {n:Int}{xs:List Int}(hn:n∉xs) (z:Int):z∈ins n xs↔z=n\/z∈xs:=by
 unfold ins
 simp only[yT,List.mem_cons,List.mem_filter,decide_eq_true_eq]
 constructor
 · rintro(⟨h,_⟩ | rfl | ⟨h,_⟩)
   · exact .inr h
   · exact .inl rfl
   · exact .inr h
 · rintro(rfl | h)
   · exact .inr (.inl rfl)
   · rcases Int.lt_trichotomy z n with hlt | heq | hgt
     · exact .inl ⟨h,hlt⟩
     · exact absurd (heq ▸ h) hn
     · exact .inr (.inr ⟨h,hgt⟩)
theorem pe {n:Int}{xs:List Int}(h:Asc xs):Asc (ins n xs):=by
 unfold ins
 refine List.pairwise_append.2 ⟨h.filter _,List.pairwise_cons.2 ⟨λz hz=>?_,h.filter _⟩,λa ha b hb=>?_⟩
 · simp only[List.mem_filter,decide_eq_true_eq]at hz;exact hz.2
 · simp only[List.mem_filter,decide_eq_true_eq]at ha
   rcases List.mem_cons.1 hb with rfl | hb
   · exact ha.2
   · simp only[List.mem_filter,decide_eq_true_eq]at hb;omega
theorem tH {n:Int}{xs:List Int}(hn:n∉xs) (h:Asc xs):(ins n xs).length=xs.length+1:=by
 have h1:(n::xs).Nodup:=List.nodup_cons.2 ⟨hn,iG h⟩
 have h2:(ins n xs).Perm (n::xs):=(List.perm_ext_iff_of_nodup (iG (pe h)) h1).2 λz=>by rw[pi hn,List.mem_cons]
 rw[h2.length_eq,yO]
theorem uz {n:Int}{xs:List Int}(h:Asc xs) (hn:n∉xs){k:Nat}(hk:k<=xs.length) (h1:∀(i:Nat) x,i<k->xs[i]? =some x->x<n) (h2:∀x,xs[k]? =some x->n<x):xs.take k++n::xs.drop k=ins n xs:=by
 refine rV ?_ (pe h) λz=>?_
 · have hT:∀z∈xs.take k,z<n:=λz hz=>by
    obtain⟨i,hi⟩:=List.mem_iff_getElem?.1 hz
    rw[List.getElem?_take]at hi
    split at hi
    · rename_i hik;exact h1 i z hik hi
    · cases hi
   have hD:∀z∈xs.drop k,n<z:=λz hz=>by
    obtain⟨i,hi⟩:=List.mem_iff_getElem?.1 hz
    rw[List.getElem?_drop]at hi
    have hlt:=(hV.1 hi).1
    have hx:xs[k]? =some (xs[k]'(by omega)):=gs (by omega)
    have:=h2 _ hx
    rcases Nat.eq_zero_or_pos i with e | e
    · subst e
      rw[Nat.add_zero,hx]at hi
      cases hi;exact this
    · have:=qW h hx hi (by omega)
      omega
   refine List.pairwise_append.2 ⟨h.sublist (List.take_sublist ..),List.pairwise_cons.2 ⟨hD,h.sublist (List.drop_sublist ..)⟩,λa ha b hb=>?_⟩
   have:=hT a ha
   rcases List.mem_cons.1 hb with rfl | hb
   · exact this
   · have:=hD b hb;omega
 · rw[pi hn,yT,List.mem_cons]
   have:z∈xs↔z∈xs.take k\/z∈xs.drop k:=by rw[← yT,List.take_append_drop]
   rw[this]
   constructor
   · rintro(h | h | h)
     · exact .inr (.inl h)
     · exact .inl h
     · exact .inr (.inr h)
   · rintro(h | h | h)
     · exact .inr (.inl h)
     · exact .inl h
     · exact .inr (.inr h)
end Go.Proofs.YtleekpaohfpooaaGreat
set_option linter.unusedVariables false
set_option linter.unusedSimpArgs false
namespace Go.Proofs.YtleekpaohfpooaaGreat
open Go Go.Wk Go.Proofs
def vertOk (a:Arena) (i:Nat) (row:List Int):Bool:=(match a.Owner[i]? with | some o=>inR 2 o | none=>false)&&decide ((1:Int)<=row.length)&&decide ((row.length:Int)<=16)&&cK (a.Owner.length:Int) row
def dz (a:Arena):Bool:=decide (1<=(a.Owner.length:Int))&&decide ((a.Owner.length:Int)<=256)&&((a.Next.length:Int)==(a.Owner.length:Int))&&a.Next.zipIdx.all (λp=>vertOk a p.2 p.1)
def cA (g:Parity):Bool:=dz g.Arena&&((g.Prio.length:Int)==(g.Arena.Owner.length:Int))&&g.Prio.all (inR 41)
theorem nN (a:Arena):jB a=some (dz a):=by
 unfold jB dz
 rw[dc,bE]
 cases h1:(decide (1<=(a.Owner.length:Int))&&decide ((a.Owner.length:Int)<=256)) with
 | false=>rfl
 | true=>
  simp only[yH,decide_eq_true_eq]at h1
  simp only[yJ,cond_false,bE,Bool.true_and,bne]
  cases h2:((a.Next.length:Int)==(a.Owner.length:Int)) with
  | false=>rfl
  | true=>
   have hl:a.Owner.length=a.Next.length:=by have:=beq_iff_eq.1 h2;omega
   rw[kF (f:=gP a) (r:=false) (vertOk a) (xs:=a.Next) hl (λi row hx=>by
    have hi:=(hV.1 hx).1
    obtain⟨o,ho⟩:∃o,a.Owner[i]? =some o:=⟨_,gs (by omega)⟩
    have hv:vertOk a i row=(inR 2 o&&decide ((1:Int)<=row.length)&&decide ((row.length:Int)<=16)&&cK (a.Owner.length:Int) row):=by unfold vertOk;rw[ho]
    rw[hv]
    unfold gP
    rw[bH,bH,ho,hx]
    simp only[bE,dc,in2]
    cases inR 2 o with
    | false=>rfl
    | true=>
     simp only[yJ,cond_false,bE,ov,Bool.true_and]
     cases h3:decide ((1:Int)<=row.length) with
     | false=>rfl
     | true=>
      simp only[yJ,cond_false,bE,Bool.true_and]
      cases h4:decide ((row.length:Int)<=16) with
      | false=>rfl
      | true=>
       have h4:=of_decide_eq_true h4
       rw[jO (by omega) (by omega) (by omega)]
       simp only[yJ,cond_false,bE,Bool.true_and]
       cases cK (a.Owner.length:Int) row <;> rfl)]
   simp only[yJ,cond_false,bE,Bool.true_and]
   cases List.all a.Next.zipIdx (λp=>vertOk a p.2 p.1) <;> rfl
theorem nM (a:Arena):jC a=some (dz a):=by
 unfold jC dz
 simp only[orE,bE,ov,bne]
 rw[show(!decide (1<=(a.Owner.length:Int)) || !decide ((a.Owner.length:Int)<=256) || !((a.Next.length:Int)==(a.Owner.length:Int)))= !(decide (1<=(a.Owner.length:Int))&&decide ((a.Owner.length:Int)<=256)&&((a.Next.length:Int)==(a.Owner.length:Int))) from by simp only[Bool.not_and]]
 cases h1:(decide (1<=(a.Owner.length:Int))&&decide ((a.Owner.length:Int)<=256)&&((a.Next.length:Int)==(a.Owner.length:Int))) with
 | false=>rfl
 | true=>
  simp only[yH,decide_eq_true_eq,beq_iff_eq]at h1
  simp only[yJ,cond_false,bE,Bool.true_and]
  rw[kF (f:=gQ a) (r:=false) (vertOk a) (xs:=a.Next) rfl (λi row hx=>by
   have hi:=(hV.1 hx).1
   obtain⟨o,ho⟩:∃o,a.Owner[i]? =some o:=⟨_,gs (by omega)⟩
   have hv:vertOk a i row=(inR 2 o&&decide ((1:Int)<=row.length)&&decide ((row.length:Int)<=16)&&cK (a.Owner.length:Int) row):=by unfold vertOk;rw[ho]
   rw[hv]
   unfold gQ
   rw[bH,bH,ho,hx]
   simp only[bE]
   have hx2:(decide (o<0)||decide (1<o))= !(inR 2 o):=by
    rw[← qY];congr 1
   rw[orE,bE,hx2]
   cases inR 2 o with
   | false=>rfl
   | true=>
    simp only[yJ,cond_false,bE,ov,Bool.true_and]
    cases h3:decide ((1:Int)<=row.length) with
    | false=>rfl
    | true=>
     simp only[yJ,cond_false,bE,Bool.true_and]
     cases h4:decide ((row.length:Int)<=16) with
     | false=>rfl
     | true=>
      have h4:=of_decide_eq_true h4
      rw[j5 (by omega)]
      simp only[yJ,cond_false,bE,Bool.true_and]
      cases cK (a.Owner.length:Int) row <;> rfl)]
  simp only[yJ,cond_false,bE,Bool.true_and]
  cases List.all a.Next.zipIdx (λp=>vertOk a p.2 p.1) <;> rfl
theorem kv (g:Parity):gx g=some (cA g):=by
 unfold gx cA
 rw[nN,bE,orE,bE,bne,← Bool.not_and]
 cases h1:(dz g.Arena&&((g.Prio.length:Int)==(g.Arena.Owner.length:Int))) with
 | false=>rfl
 | true=>
  simp only[yJ,cond_false]
  rw[cP (f:=gc g) (r:=false) (inR 41) (xs:=g.Prio) rfl (λi y hy=>by
   unfold gc
   rw[bH,hy,bE,dc,bE,in41]
   cases inR 41 y <;> rfl)]
  cases g.Prio.all (inR 41) <;> rfl
theorem qx (g:Parity):j9 g=some (cA g):=by
 unfold j9 cA
 rw[nM,bE,orE,bE,bne,← Bool.not_and]
 cases h1:(dz g.Arena&&((g.Prio.length:Int)==(g.Arena.Owner.length:Int))) with
 | false=>rfl
 | true=>
  simp only[yJ,cond_false]
  rw[cP (f:=gl g) (r:=false) (inR 41) (xs:=g.Prio) rfl (λi y hy=>by
   unfold gl
   rw[bH,hy,bE,orE,bE]
   have hx2:(decide (y<0)||decide (40<y))= !(inR 41 y):=by
    rw[← qY];congr 1
   rw[hx2]
   cases inR 41 y <;> rfl)]
  cases g.Prio.all (inR 41) <;> rfl
theorem dp {g:Parity}(h:cA g=true):1<=g.Arena.Owner.length/\g.Arena.Owner.length<=256/\g.Arena.Next.length=g.Arena.Owner.length/\g.Prio.length=g.Arena.Owner.length /\
 (∀(i:Nat) row,g.Arena.Next[i]? =some row->1<=row.length/\row.length<=16/\cK (g.Arena.Owner.length:Int) row=true):=by
 simp only[cA,dz,yH,decide_eq_true_eq,beq_iff_eq]at h
 obtain⟨⟨⟨⟨⟨h1,h2⟩,h3⟩,h4⟩,h5⟩,h6⟩:=h
 refine⟨by omega,by omega,by omega,by omega,λi row hr=>?_⟩
 rw[List.all_eq_true]at h4
 have:=h4 (row,i) (List.mem_zipIdx_iff_getElem?.2 hr)
 simp only[vertOk,yH,decide_eq_true_eq]at this
 exact⟨by omega,by omega,this.2⟩
end Go.Proofs.YtleekpaohfpooaaGreat
set_option linter.unusedVariables false
set_option linter.unusedSimpArgs false
namespace Go.Proofs.YtleekpaohfpooaaGreat
open Go Go.Wk Go.Proofs
theorem pM {g:Parity}(h:cA g=true):(∀o∈g.Arena.Owner,inR 2 o=true)/\(∀x∈g.Prio,inR 41 x=true):=by
 have h':=dp h
 simp only[cA,dz,yH,decide_eq_true_eq,beq_iff_eq]at h
 obtain⟨⟨⟨⟨⟨h1,h2⟩,h3⟩,h4⟩,h5⟩,h6⟩:=h
 rw[List.all_eq_true]at h4 h6
 refine⟨λo ho=>?_,h6⟩
 obtain⟨i,hi⟩:=List.mem_iff_getElem?.1 ho
 have hlt:=(hV.1 hi).1
 have hr:g.Arena.Next[i]? =some (g.Arena.Next[i]'(by omega)):=gs (by omega)
 have:=h4 (_,i) (List.mem_zipIdx_iff_getElem?.2 hr)
 simp only[vertOk,hi,yH]at this
 exact this.1.1.1
theorem uS {g:Parity}(h1:1<=g.Arena.Owner.length) (h2:g.Arena.Owner.length<=256) (h3:g.Arena.Next.length=g.Arena.Owner.length) (h4:g.Prio.length=g.Arena.Owner.length) (h5:∀row∈g.Arena.Next,1<=row.length/\row.length<=16/\cK (g.Arena.Owner.length:Int) row=true) (h6:∀o∈g.Arena.Owner,inR 2 o=true) (h7:∀x∈g.Prio,inR 41 x=true):cA g=true:=by
 simp only[cA,dz,yH,decide_eq_true_eq,beq_iff_eq]
 refine⟨⟨⟨⟨⟨by omega,by omega⟩,by omega⟩,?_⟩,by omega⟩,by rw[List.all_eq_true];exact h7⟩
 rw[List.all_eq_true]
 rintro⟨row,i⟩ hx
 have hx:=List.mem_zipIdx_iff_getElem?.1 hx
 dsimp only at hx ⊢
 have hlt:=(hV.1 hx).1
 obtain⟨k1,k2,k3⟩:=h5 row (yB hx)
 have ho:g.Arena.Owner[i]? =some (g.Arena.Owner[i]'(by omega)):=gs (by omega)
 have:=h6 _ (List.getElem_mem (show i<g.Arena.Owner.length by omega))
 unfold vertOk
 simp only[ho,this,k3,Bool.and_true,Bool.true_and,yH,decide_eq_true_eq]
 exact⟨by omega,by omega⟩
end Go.Proofs.YtleekpaohfpooaaGreat
set_option linter.unusedVariables false
set_option linter.unusedSimpArgs false
namespace Go.Proofs.YtleekpaohfpooaaGreat
open Go Go.Wk Go.Proofs
def sigOk (p:Sig):Bool:=(decide (1<=p.In)&&decide (p.In<=2))&&(decide (1<=p.Out)&&decide (p.Out<=2))
theorem dP (p:Sig):ia p=some (sigOk p):=by
 unfold ia sigOk
 simp only[dc,bE]
 cases(decide (1<=p.In)&&decide (p.In<=2)) <;> simp
theorem ns (p:Sig):lw p=some (sigOk p):=by
 unfold lw sigOk
 by_cases h1:1<=p.In <;> by_cases h2:p.In<=2 <;> by_cases h3:1<=p.Out <;> by_cases h4:p.Out<=2 <;> simp[h1,h2,h3,h4]
theorem gp (xs:List Int){n:Int}(h0: -1000000000000000000<=n) (h1:n<=1000000000000000000):dS xs n=some (xs.all (inR n)):=by
 unfold dS
 have hm:=cP (f:=gt xs n) (r:=false) (inR n) (xs:=xs) rfl (λi y hy=>by
  unfold gt
  rw[wr' (by omega) (by omega),bH,hy,bE,dc,bE]
  have:(decide (0<=y)&&decide (y<=n-1))=inR n y:=by
   unfold inR
   congr 1
   exact decide_eq_decide.2 (by omega)
  rw[this]
  cases inR n y <;> rfl)
 rw[hm,bE]
 cases xs.all (inR n) <;> rfl
theorem oX (xs:List Int) (n:Int):hU xs n=some (xs.all (inR n)):=by
 unfold hU
 rw[dR (λx=>decide (x<0)||decide (n<=x)) (λx _=>by
  unfold em
  by_cases h:x<0 <;> simp[h]),bE]
 congr 1
 rw[List.all_eq_not_any_not]
 congr 2
 funext x
 unfold inR
 by_cases h:x<0 <;> by_cases h':n<=x <;> simp[h,h'] <;> omega
def pw (n:Int):Int:=if n=1 then 2 else 4
theorem dm {n:Int}(h:n=1\/n=2):de n=some (pw n):=by
 unfold de
 rcases h with rfl | rfl
 · rw[iz (by omega)]
   have:fb (1,1)=some (.inr (.inr (0,2))):=by decide
   rw[this,bE,nZ,iz (by omega)]
   rfl
 · rw[iz (by omega)]
   have:fb (2,1)=some (.inr (.inr (1,2))):=by decide
   rw[this,bE,nZ,iz (by omega)]
   have:fb (1,2)=some (.inr (.inr (0,4))):=by decide
   rw[this,bE,nZ,iz (by omega)]
   rfl
theorem pd {n:Int}(h:n=1\/n=2):nn n=some ()/\IntKind.i64.wrap (1 * 2 ^ (min (Int.toNat n) (IntKind.bits IntKind.i64)))=pw n:=by
 rcases h with rfl | rfl <;> decide
theorem dI {p:Sig}(h:sigOk p=true):(p.In=1\/p.In=2)/\(p.Out=1\/p.Out=2):=by
 simp only[sigOk,yH,decide_eq_true_eq]at h
 omega
theorem iZ (n:Int):2<=pw n/\pw n<=4:=by unfold pw;split <;> omega
end Go.Proofs.YtleekpaohfpooaaGreat
set_option linter.unusedVariables false
set_option linter.unusedSimpArgs false
namespace Go.Proofs.YtleekpaohfpooaaGreat
open Go Go.Wk Go.Proofs
theorem xm {xs:List Int}(h:Asc xs){n:Int}(hn:n∉xs) (hl:xs.length<=100000):jc xs n=some (ins n xs):=by
 obtain⟨o,w1,w2⟩:=cB (f:=fu xs n) (λj (s:Int)=>s=(j:Int)/\j<=xs.length/\∀(i:Nat) x,i<j->xs[i]? =some x->x<n) (λ_=>False) (λs=>∃k:Nat,s=(k:Int)/\k<=xs.length/\(∀(i:Nat) x,i<k->xs[i]? =some x->x<n)/\∀x,xs[k]? =some x->n<x) xs.length (λj s ⟨e,hj,hall⟩=>by
  subst e
  unfold fu
  by_cases hlt:(j:Int)<(xs.length:Int)
  · have hxj:xs[j]? =some (xs[j]'(by omega)):=gs (by omega)
    have hm:=List.getElem_mem (show j<xs.length by omega)
    generalize xs[j]'(by omega)=x at hxj hm
    simp only[hlt,decide_true,cond_true,bH,hxj,bE]
    by_cases hxn:x<n
    · simp only[hxn,decide_true,cond_true]
      refine⟨_,rfl,by omega,by rw[wr' (by omega) (by omega)];omega,by omega,λi y hi hy=>?_⟩
      by_cases hij:i=j
      · subst hij;rw[hxj]at hy;cases hy;exact hxn
      · exact hall i y (by omega) hy
    · simp only[hxn,decide_false,cond_false]
      refine⟨_,rfl,j,rfl,hj,hall,λy hy=>?_⟩
      rw[hxj]at hy
      cases hy
      have:x≠n:=λe=>hn (e ▸ hm)
      omega
  · simp only[hlt,decide_false,cond_false,bE]
    exact⟨_,rfl,j,rfl,hj,hall,λy hy=>by have:=(hV.1 hy).1;omega⟩)
  (2 ^ 64) 0 0 (by omega) ⟨rfl,by omega,λi x hi=>by omega⟩ (by omega)
 match o,w2 with
 | .inr s,⟨k,e,hk,h1,h2⟩=>
  subst e
  unfold jc
  rw[w1,bE,bJ]
  have hc:(bC (bif decide ((k:Int)<(xs.length:Int)) then bC (idx xs (k:Int)) λx28=>some (x28==n) else some false) λp32=>bif p32 then some xs else
   bC (subS xs 0 (k:Int)) λx36=>bC (da x36) λx37=>bC (appS 8 x37 [n]) λx40=>bC (subS xs (k:Int) (xs.length:Int)) λx44=>bC (appS 8 x40 x44) λx45=>some x45)=some (xs.take k++[n]++xs.drop k):=by
   have hp:(bif decide ((k:Int)<(xs.length:Int)) then bC (idx xs (k:Int)) λx28=>some (x28==n) else some false)=some false:=by
    by_cases hlt:(k:Int)<(xs.length:Int)
    · have hxk:xs[k]? =some (xs[k]'(by omega)):=gs (by omega)
      have:=h2 _ hxk
      have hne:(xs[k]'(by omega)==n)=false:=by
       rw[beq_eq_false_iff_ne];omega
      simp only[hlt,decide_true,cond_true,bH,hxk,bE,hne]
    · simp only[hlt,decide_false,cond_false]
   have hs1:subS xs 0 (k:Int)=some (xs.take k):=by
    unfold subS
    rw[if_pos (by omega),yN];rfl
   have hs2:subS xs (k:Int) (xs.length:Int)=some (xs.drop k):=by
    unfold subS
    rw[if_pos (by omega),yN,yN,List.take_length]
   have ht:(xs.take k).length<=100000:=by rw[yP];omega
   rw[hp,bE]
   simp only[cond_false]
   rw[hs1,bE]
   unfold da
   rw[appL (by rw[yQ];omega) rfl,bE,bE,List.nil_append,app1 (by omega) rfl,bE,hs2,bE,appL (by rw[yK,List.length_drop,List.length_singleton];omega) rfl]
   rfl
  rw[hc,List.append_assoc,List.singleton_append,uz h hn hk h1 h2]
theorem uc {xs:List Int}(hl:xs.length<=10000000):da xs=some xs:=by
 unfold da
 rw[appL (by rw[yQ];omega) rfl];rfl
end Go.Proofs.YtleekpaohfpooaaGreat
set_option linter.unusedVariables false
set_option linter.unusedSimpArgs false
namespace Go.Proofs.YtleekpaohfpooaaGreat
open Go Go.Wk Go.Proofs
def pairOk (n:Int) (x:Pair):Bool:=cK n x.Ask&&cK n x.Give
def pairsOk (xs:List Pair) (n:Int):Bool:=decide ((xs.length:Int)<=4)&&xs.all (pairOk n)
section
variable {xs:List Pair}{n:Int}(h0:0<=n) (h1:n<=256) (hb:∀x∈xs,x.Ask.length<=1000000000/\x.Give.length<=1000000000)
include h0 h1 hb
omit hb in
theorem oO {s:List Int}(hl:s.length<=1000000000):jr s n=some (cK n s):=by
 unfold jr
 rw[dc,jO h0 (by omega) hl]
 simp[h0,h1]
theorem m0:jz xs n=some (pairsOk xs n):=by
 unfold jz pairsOk
 rw[dc]
 simp only[h0,h1,decide_true,Bool.and_self,bE,yJ,cond_false,ov]
 cases decide ((xs.length:Int)<=4) with
 | false=>rfl
 | true=>
  rw[cP (f:=gV xs n) (r:=false) (pairOk n) (xs:=xs) rfl (λi x hx=>by
   obtain⟨b1,b2⟩:=hb x (yB hx)
   unfold gV pairOk
   rw[bH,hx]
   simp only[bE,oO h0 h1 b1,oO h0 h1 b2]
   cases cK n x.Ask <;> cases cK n x.Give <;> rfl)]
  simp only[yJ,cond_false,bE,Bool.true_and]
  cases xs.all (pairOk n) <;> rfl
end
end Go.Proofs.YtleekpaohfpooaaGreat
set_option linter.unusedVariables false
set_option linter.unusedSimpArgs false
namespace Go.Proofs.YtleekpaohfpooaaGreat
open Go Go.Wk Go.Proofs
theorem pv {row:List Int}{v:Int}:dH row v=some (decide (v∈row)):=by
 unfold dH
 rw[cP (f:=gA row v) (r:=true) (xs:=row) (λx=> !(x==v)) rfl (λi x hx=>by
  unfold gA
  rw[bH,hx,bE]
  cases x==v <;> rfl)]
 by_cases h:v∈row
 · have:(row.all λx=> !(x==v))=false:=by
    rw[List.all_eq_false]
    exact⟨v,h,by simp⟩
   rw[this,decide_eq_true h];rfl
 · have:(row.all λx=> !(x==v))=true:=by
    rw[List.all_eq_true]
    intro x hx
    have:x≠v:=λe=>h (e ▸ hx)
    simp[this]
   rw[this,decide_eq_false h];rfl
theorem wA {xs:List Int}(h:Asc xs){n:Int}(hn:n∈xs) (hl:xs.length<=100000):jc xs n=some xs:=by
 obtain⟨k,hk⟩:=List.getElem?_of_mem hn
 have hkl:=(hV.1 hk).1
 obtain⟨o,w1,w2⟩:=cB (f:=fu xs n) (λj (s:Int)=>s=(j:Int)/\j<=k) (λ_=>False) (λs=>s=(k:Int)) xs.length (λj s ⟨e,hj⟩=>by
  subst e
  have hxj:xs[j]? =some (xs[j]'(by omega)):=gs (by omega)
  generalize xs[j]'(by omega)=x at hxj
  unfold fu
  rw[decide_eq_true (show(j:Int)<(xs.length:Int) by omega),cond_true,bH,hxj,bE,bE]
  by_cases e:j=k
  · subst e
    rw[hxj]at hk
    cases hk
    rw[decide_eq_false (Int.lt_irrefl _),cond_false]
    exact⟨_,rfl,rfl⟩
  · have:=qW h hxj hk (by omega)
    rw[decide_eq_true this,cond_true]
    exact⟨_,rfl,by omega,by rw[wr' (by omega) (by omega)];omega,by omega⟩)
  (2 ^ 64) 0 0 (by omega) ⟨rfl,Nat.zero_le _⟩ (by omega)
 match o,w2 with
 | .inr s,e=>
  have e:s=(k:Int):=e
  subst e
  unfold jc
  rw[w1,bE,bJ,decide_eq_true (show(k:Int)<(xs.length:Int) by omega),cond_true,bH,hk,bE,bE]
  simp
theorem vw {xs:List Int}(h:Asc xs) (n:Int) (hl:xs.length<=100000):∃R,jc xs n=some R/\Asc R/\∀z,z∈R↔z=n\/z∈xs:=by
 by_cases hn:n∈xs
 · exact⟨xs,wA h hn hl,h,λz=>⟨.inr,λk=>k.elim (λe=>e ▸ hn) id⟩⟩
 · exact⟨_,xm h hn hl,pe h,pi hn⟩
structure St (n:Nat) (xs:List Int):Prop where
 asc:Asc xs
 rng:∀x∈xs,0<=x/\x<n
theorem St.len {n:Nat}{xs:List Int}(h:St n xs):xs.length<=n:=cW n xs (iG h.asc) h.rng
theorem St.ok {n:Nat}{xs:List Int}(h:St n xs){m:Int}(hm:(n:Int)<=m):cK m xs=true:=fd.2 ⟨λx hx=>by have:=h.rng x hx;omega,h.asc⟩
theorem St.of {n:Nat}{xs:List Int}(h:cK (n:Int) xs=true):St n xs:=⟨(fd.1 h).2,(fd.1 h).1⟩
theorem St.filter {n:Nat}{xs:List Int}(h:St n xs) (p:Int->Bool):St n (xs.filter p):=⟨h.asc.filter _,λx hx=>h.rng x (List.mem_filter.1 hx).1⟩
end Go.Proofs.YtleekpaohfpooaaGreat
set_option linter.unusedVariables false
set_option linter.unusedSimpArgs false
namespace Go.Proofs.YtleekpaohfpooaaGreat
open Go Go.Wk Go.Proofs
def ltd (p:Sig):Int:=pw p.In * pw p.Out
theorem oP {p:Sig}(hs:sigOk p=true):cU p=some (ltd p):=by
 unfold cU
 rw[dP,hs]
 obtain⟨hi,ho⟩:=dI hs
 unfold ltd
 simp only[bE,yJ,cond_false]
 rcases hi with h | h <;> rcases ho with k | k <;> rw[h,k] <;> decide
theorem oS {p:Sig}(hs:sigOk p=true):c8 p=some (ltd p):=by
 obtain⟨h1,h2⟩:=dI hs
 unfold c8 ltd
 rcases h1 with h1 | h1 <;> rcases h2 with h2 | h2 <;> rw[h1,h2] <;> decide
def detRow (p:Sig) (n:Int) (row:List Int):Bool:=((row.length:Int)==ltd p)&&row.all (inR n)
def detOk (p:Sig) (d:Det):Bool:=decide (1<=(d.Next.length:Int))&&decide ((d.Next.length:Int)<=48)&&pairsOk d.Pairs d.Next.length&&d.Next.all (detRow p d.Next.length)
section
variable {p:Sig}{d:Det}(hs:sigOk p=true) (hb:∀x∈d.Pairs,x.Ask.length<=1000000000/\x.Give.length<=1000000000)
include hs hb
theorem ki:kr p d=some (detOk p d):=by
 unfold kr detOk
 rw[dP,hs]
 simp only[bE,yJ,cond_false,dc]
 cases h1:(decide (1<=(d.Next.length:Int))&&decide ((d.Next.length:Int)<=48)) with
 | false=>rfl
 | true=>
  simp only[yH,decide_eq_true_eq]at h1
  rw[cP (f:=jN p d) (r:=false) (detRow p d.Next.length) (xs:=d.Next) rfl (λi row hx=>by
   unfold jN detRow
   rw[bH,hx]
   simp only[bE,oP hs,gp row (n:=(d.Next.length:Int)) (by omega) (by omega),bne]
   cases((row.length:Int)==ltd p) <;> cases row.all (inR d.Next.length) <;> rfl),m0 (by omega) (by omega) hb]
  simp only[yJ,cond_false,bE,Bool.true_and]
  cases d.Next.all (detRow p d.Next.length) <;> cases pairsOk d.Pairs d.Next.length <;> rfl
omit hs hb in
theorem iy (h:detOk p d=true):1<=d.Next.length/\d.Next.length<=48/\d.Pairs.length<=4/\∀row∈d.Next,RowIn d.Next.length (ltd p) row:=by
 simp only[detOk,pairsOk,yH,decide_eq_true_eq,List.all_eq_true]at h
 obtain⟨⟨⟨h1,h2⟩,h3,_⟩,h4⟩:=h
 refine⟨by omega,by omega,by omega,λrow hr=>?_⟩
 have:=h4 row hr
 simp only[detRow,yH,beq_iff_eq,List.all_eq_true,cQ]at this
 exact this
end
end Go.Proofs.YtleekpaohfpooaaGreat
set_option linter.unusedVariables false
set_option linter.unusedSimpArgs false
namespace Go.Proofs.YtleekpaohfpooaaGreat
open Go Go.Wk Go.Proofs
def ltr (p:Sig):Int:=pw p.In * pw p.Out
theorem lU {p:Sig}(hs:sigOk p=true):4<=ltr p/\ltr p<=16:=by
 obtain⟨hi,ho⟩:=dI hs
 unfold ltr pw
 rcases hi with h | h <;> rcases ho with k | k <;> rw[h,k] <;> decide
theorem dV {p:Sig}(hs:sigOk p=true):cU p=some (ltr p):=by
 unfold cU
 rw[dP,hs]
 obtain⟨hi,ho⟩:=dI hs
 unfold ltr
 simp only[bE,yJ,cond_false]
 rcases hi with h | h <;> rcases ho with k | k <;> rw[h,k] <;> decide
theorem j4 {p:Sig}(hs:sigOk p=true):c8 p=some (ltr p):=by
 unfold c8
 obtain⟨hi,ho⟩:=dI hs
 unfold ltr
 rcases hi with h | h <;> rcases ho with k | k <;> rw[h,k] <;> decide
def cm (p:Sig) (c:Clause):Bool:=decide (1<=c.Kind)&&decide (c.Kind<=7)&&cK (ltr p) c.A&&cK (ltr p) c.B&&(c.Kind==2||c.Kind==3||c.Kind==7||((c.B.length:Int)==0))
theorem kx {p:Sig}(hs:sigOk p=true){c:Clause}(hb:Clause.bd c):gw p c=some (cm p c):=by
 obtain⟨_,⟨hA,_⟩,⟨hB,_⟩⟩:=hb
 have hl:=lU hs
 unfold gw cm mZ
 rw[dP,hs,dV hs]
 simp only[bE,yJ,cond_false,dc,jO (xs:=c.A) (n:=ltr p) (by omega) (by omega) (by omega),jO (xs:=c.B) (n:=ltr p) (by omega) (by omega) (by omega),orE,andE]
 generalize decide (1<=c.Kind)=b1
 generalize decide (c.Kind<=7)=b2
 generalize cK (ltr p) c.A=b3
 generalize cK (ltr p) c.B=b4
 generalize(c.Kind==2)=b5
 generalize(c.Kind==3)=b6
 generalize(c.Kind==7)=b7
 generalize((c.B.length:Int)==0)=b8
 cases b1 <;> cases b2 <;> cases b3 <;> cases b4 <;> cases b5 <;> cases b6 <;> cases b7 <;> cases b8 <;> rfl
theorem qF {p:Sig}(hs:sigOk p=true){c:Clause}(hb:Clause.bd c):jH p c=some (cm p c):=by
 obtain⟨_,⟨hA,_⟩,⟨hB,_⟩⟩:=hb
 unfold jH cm kj
 have e1:decide (c.Kind<1)= !decide (1<=c.Kind):=by rw[← decide_not];exact decide_eq_decide.2 (by omega)
 have e2:decide (7<c.Kind)= !decide (c.Kind<=7):=by rw[← decide_not];exact decide_eq_decide.2 (by omega)
 rw[j4 hs,e1,e2]
 simp only[bE,j5 (xs:=c.A) (n:=ltr p) (by omega),j5 (xs:=c.B) (n:=ltr p) (by omega),orE,andE]
 generalize decide (1<=c.Kind)=b1
 generalize decide (c.Kind<=7)=b2
 generalize cK (ltr p) c.A=b3
 generalize cK (ltr p) c.B=b4
 generalize(c.Kind==2)=b5
 generalize(c.Kind==3)=b6
 generalize(c.Kind==7)=b7
 generalize((c.B.length:Int)==0)=b8
 cases b1 <;> cases b2 <;> cases b3 <;> cases b4 <;> cases b5 <;> cases b6 <;> cases b7 <;> cases b8 <;> rfl
theorem mg {p:Sig}(hs:sigOk p=true){cs:List Clause}(hb:∀c∈cs,Clause.bd c):eE p cs=some (decide ((cs.length:Int)<=3)&&cs.all (cm p)):=by
 unfold eE
 rw[dP,hs]
 have e:decide (3<(cs.length:Int))= !decide ((cs.length:Int)<=3):=by rw[← decide_not];exact decide_eq_decide.2 (by omega)
 simp only[bE,yJ,cond_false,e]
 cases decide ((cs.length:Int)<=3) with
 | false=>rfl
 | true=>
  simp only[yJ,cond_false,Bool.true_and]
  rw[cP (f:=fp p cs) (r:=false) (cm p) (xs:=cs) rfl (λi c hc=>by
   unfold fp
   rw[bH,hc,bE,kx hs (hb c (yB hc)),bE]
   cases cm p c <;> rfl)]
  cases cs.all (cm p) <;> rfl
theorem oR {p:Sig}(hs:sigOk p=true){cs:List Clause}(hb:∀c∈cs,Clause.bd c):ic p cs=some (decide ((cs.length:Int)<=3)&&cs.all (cm p)):=by
 unfold ic
 rw[c9 (λc=> !cm p c) (λc hc=>by
  unfold ek
  rw[qF hs (hb c hc)];rfl)]
 simp only[bE,andE]
 rw[List.all_eq_not_any_not]
end Go.Proofs.YtleekpaohfpooaaGreat
set_option linter.unusedVariables false
set_option linter.unusedSimpArgs false
namespace Go.Proofs.YtleekpaohfpooaaGreat
open Go Go.Wk Go.Proofs
abbrev Key:=Int×Int
def loc (K:List Key) (k:Key):Option Nat:=K.findIdx? (λx=>k==x)
def addK (K:List Key) (k:Key):List Key:=match loc K k with | some _=>K | none=>K++[k]
def atK (K:List Key) (k:Key):Int:=match loc K k with | some i=>(i:Int) | none=>(K.length:Int)
theorem vz (K:List Key) (k:Key):K.length<=(addK K k).length/\(addK K k).length<=K.length+1:=by
 unfold addK
 cases loc K k <;> simp
theorem tb {K:List Key}{k:Key}{i:Nat}{v:Key}(h:K[i]? =some v):(addK K k)[i]? =some v:=by
 unfold addK
 cases loc K k with
 | some _=>exact h
 | none=>
  have:=(hV.1 h).1
  dsimp only
  rw[List.getElem?_append_left this];exact h
theorem vW {K:List Key}{k x:Key}(h:x∈addK K k):x∈K\/x=k:=by
 unfold addK at h
 cases e:loc K k with
 | some _=>rw[e]at h;exact .inl h
 | none=>rw[e]at h;simpa using h
theorem vu {K:List Key}{k:Key}{i:Nat}(h:loc K k=some i):K[i]? =some k:=by
 unfold loc at h
 obtain⟨h1,h2,h3⟩:=List.findIdx?_eq_some_iff_getElem.1 h
 have:k=K[i]:=by simpa using h2
 rw[gs h1,← this]
theorem wj {K:List Key}{k:Key}(h:loc K k=none):k∉K:=λhm=>by
 unfold loc at h
 rw[List.findIdx?_eq_none_iff]at h
 have:=h k hm
 simp at this
theorem wN (K:List Key) (k:Key):0<=atK K k/\(addK K k)[(atK K k).toNat]? =some k:=by
 unfold atK addK
 cases h:loc K k with
 | none=>exact⟨by dsimp only;omega,by dsimp only;rw[yN];simp⟩
 | some i=>exact⟨by dsimp only;omega,by dsimp only;rw[yN];exact vu h⟩
theorem tI {K:List Key}(hn:K.Nodup) (k:Key):(addK K k).Nodup:=by
 unfold addK
 cases h:loc K k with
 | none=>
  dsimp only
  refine List.nodup_append.2 ⟨hn,by simp,λa ha b hb e=>?_⟩
  rw[yM]at hb
  exact wj h (hb ▸ e ▸ ha)
 | some i=>exact hn
def rowK (ky:Int->Key) (K:List Key):Nat->List Key×List Int
 | 0=>(K,[])
 | j+1=>(addK (rowK ky K j).1 (ky j),(rowK ky K j).2++[atK (rowK ky K j).1 (ky j)])
structure RowK (ky:Int->Key) (K:List Key) (j:Nat) (K':List Key) (row:List Int):Prop where
 pre:∀(i:Nat) v,K[i]? =some v->K'[i]? =some v
 len:K.length<=K'.length
 le:K'.length<=K.length+j
 nod:K.Nodup->K'.Nodup
 rl:row.length=j
 at_:∀i:Nat,i<j->∃x,row[i]? =some x/\0<=x/\K'[x.toNat]? =some (ky i)
 mem:∀v∈K',v∈K\/∃i:Nat,i<j/\v=ky i
theorem mT (ky:Int->Key) (K:List Key):∀j,RowK ky K j (rowK ky K j).1 (rowK ky K j).2
 | 0=>⟨λ_ _ h=>h,Nat.le_refl _,Nat.le_refl _,id,rfl,λi hi=>absurd hi (Nat.not_lt_zero i),λv h=> .inl h⟩
 | j+1=>by
  have h:=mT ky K j
  unfold rowK
  generalize rowK ky K j=F at *
  have hl:=vz F.1 (ky j)
  obtain⟨a0,a1⟩:=wN F.1 (ky j)
  refine⟨λi v hv=>tb (h.pre i v hv),Nat.le_trans h.len hl.1,?_,λhn=>tI (h.nod hn) _,by simp[h.rl],λi hi=>?_,λv hv=>?_⟩
  · have:=h.le;dsimp only;omega
  · by_cases e:i=j
    · subst e
      refine⟨_,by rw[← h.rl];simp,a0,a1⟩
    · obtain⟨x,x1,x2,x3⟩:=h.at_ i (by omega)
      have hix:=(hV.1 x1).1
      exact⟨x,by rw[List.getElem?_append_left hix];exact x1,x2,tb x3⟩
  · rcases vW hv with hv | hv
    · rcases h.mem v hv with k | ⟨i,hi,e⟩
      · exact .inl k
      · exact .inr ⟨i,by omega,e⟩
    · exact .inr ⟨j,by omega,hv⟩
structure Prod (ky:Key->Int->Key) (k:Nat) (K:List Key) (i:Nat) (R:List (List Int)):Prop where
 nod:K.Nodup
 zero:K[0]? =some (0,0)
 il:i<=K.length
 rl:R.length=i
 row:∀(j:Nat) r,R[j]? =some r->r.length=k/\∃v,K[j]? =some v/\∀x:Nat,x<k->∃y,r[x]? =some y/\0<=y/\K[y.toNat]? =some (ky v x)
 src:∀(q:Nat) u,K[q]? =some u->q=0\/∃(j x:Nat) (v:Key),j<q/\j<i/\K[j]? =some v/\x<k/\u=ky v x
theorem Prod.init (ky:Key->Int->Key) (k:Nat):Prod ky k [(0,0)] 0 []:=⟨by simp,rfl,by simp,rfl,λj r h=>by simp at h,λq u h=>by
 cases q with
 | zero=>exact .inl rfl
 | succ q=>simp at h⟩
theorem Prod.step {ky:Key->Int->Key}{k:Nat}{K:List Key}{i:Nat}{R:List (List Int)}(h:Prod ky k K i R){v:Key}(hv:K[i]? =some v):Prod ky k (rowK (ky v) K k).1 (i+1) (R++[(rowK (ky v) K k).2]):=by
 have r:=mT (ky v) K k
 generalize rowK (ky v) K k=F at *
 have hi:=(hV.1 (r.pre i v hv)).1
 refine⟨r.nod h.nod,r.pre 0 _ h.zero,by omega,by simp[h.rl],λj row hj=>?_,λq u hq=>?_⟩
 rotate_left
 · have hiK:=(hV.1 hv).1
   by_cases e:q<K.length
   · have hq':K[q]? =some K[q]:=gs e
     have:=r.pre q _ hq'
     rw[hq]at this
     have e':u=K[q]:=Option.some.inj this
     rcases h.src q _ hq' with h0 | ⟨j,x,v',a1,a2,a3,a4,a5⟩
     · exact .inl h0
     · exact .inr ⟨j,x,v',a1,by omega,r.pre _ _ a3,a4,by rw[e',a5]⟩
   · rcases r.mem u (yB hq) with hm | ⟨x,x1,x2⟩
     · obtain⟨q',hq'⟩:=List.getElem?_of_mem hm
       have hl':=(hV.1 hq').1
       have hq2:=r.pre q' u hq'
       have:=(List.getElem?_inj (by have:=(hV.1 hq2).1;exact this) (r.nod h.nod)).1 (hq2.trans hq.symm)
       omega
     · exact .inr ⟨i,x,v,by omega,Nat.lt_succ_self _,r.pre i v hv,x1,x2⟩
 by_cases e:j<R.length
 · rw[List.getElem?_append_left e]at hj
   obtain⟨a,v',b,c⟩:=h.row j row hj
   refine⟨a,v',r.pre j v' b,λx hx=>?_⟩
   obtain⟨y,y1,y2,y3⟩:=c x hx
   exact⟨y,y1,y2,r.pre _ _ y3⟩
 · have:j=i:=by
    have:=(hV.1 hj).1
    rw[yK]at this
    simp only[yO,yQ]at this
    have:=h.rl
    omega
   subst this
   rw[← h.rl]at hj
   simp at hj
   subst hj
   exact⟨r.rl,v,r.pre _ _ hv,r.at_⟩
theorem sT {A B:Nat}{K:List Key}(hn:K.Nodup) (hk:∀v∈K,0<=v.1/\v.1<A/\0<=v.2/\v.2<B):K.length<=A * B:=by
 have hmul:∀a b:Int,a<b->a * B+B<=b * B:=λa b h=>by
  have:=Int.mul_le_mul_of_nonneg_right (show a+1<=b by omega) (show(0:Int)<=(B:Int) by omega)
  rwa [Int.add_mul,Int.one_mul]at this
 have h:=cW (A * B) (K.map λv=>v.1 * B+v.2) (by
  rw[List.Nodup,List.pairwise_map]
  refine List.Pairwise.imp_of_mem (λ{a b} ha hb hne e=>?_) hn
  obtain⟨a0,a1,a2,a3⟩:=hk a ha
  obtain⟨b0,b1,b2,b3⟩:=hk b hb
  by_cases h1:a.1<b.1
  · have:=hmul a.1 b.1 h1;omega
  · by_cases h2:b.1<a.1
    · have:=hmul b.1 a.1 h2;omega
    · have e1:a.1=b.1:=by omega
      rw[e1]at e
      exact hne (Prod.ext e1 (by omega))) (λx hx=>by
  obtain⟨v,hv,rfl⟩:=List.mem_map.1 hx
  obtain⟨a0,a1,a2,a3⟩:=hk v hv
  have h0:0<=v.1 * (B:Int):=Int.mul_nonneg a0 (by omega)
  have:=hmul v.1 A a1
  have e:((A * B:Nat):Int)=(A:Int) * (B:Int):=by simp
  rw[e]
  omega)
 rwa [yW]at h
def plK (part:Key->Int) (K:List Key) (S:List Int):Nat->List Int
 | 0=>[]
 | j+1=>plK part K S j++(match K[j]? with | some v=>if part v∈S then[(j:Int)] else[] | none=>[])
theorem pg (part:Key->Int) (K:List Key) (S:List Int):∀(j:Nat) (z:Int),z∈plK part K S j↔∃i:Nat,i<j/\z=(i:Int)/\∃v,K[i]? =some v/\part v∈S
 | 0,z=>by simp[plK]
 | j+1,z=>by
  unfold plK
  rw[yT,pg part K S j]
  constructor
  · rintro(⟨i,h1,h2⟩ | h)
    · exact⟨i,by omega,h2⟩
    · cases e:K[j]? with
      | none=>rw[e]at h;cases h
      | some v=>
       rw[e]at h
       dsimp only at h
       by_cases hv:part v∈S
       · rw[if_pos hv,yM]at h
         exact⟨j,by omega,h,v,e,hv⟩
       · rw[if_neg hv]at h;cases h
  · rintro⟨i,h1,h2,v,h3,h4⟩
    by_cases e:i=j
    · subst e
      right
      rw[h3]
      dsimp only
      rw[if_pos h4,yM]
      exact h2
    · exact .inl ⟨i,by omega,h2,v,h3,h4⟩
theorem uC (part:Key->Int) (K:List Key) (S:List Int):∀j:Nat,Asc (plK part K S j)
 | 0=>List.Pairwise.nil
 | j+1=>by
  unfold plK
  refine List.pairwise_append.2 ⟨uC part K S j,?_,λa ha b hb=>?_⟩
  · cases K[j]? with
    | none=>exact List.Pairwise.nil
    | some v=>dsimp only;split <;> simp
  · obtain⟨i,h1,h2,_⟩:=(pg part K S j a).1 ha
    have hb':b=(j:Int):=by
     cases e:K[j]? with
     | none=>rw[e]at hb;cases hb
     | some v=>
      rw[e]at hb
      dsimp only at hb
      split at hb
      · simpa using hb
      · cases hb
    omega
theorem uy (part:Key->Int) (K:List Key) (S:List Int):∀j:Nat,(plK part K S j).length<=j
 | 0=>Nat.le_refl _
 | j+1=>by
  unfold plK
  have:=uy part K S j
  rw[yK]
  have:(match K[j]? with | some v=>if part v∈S then[(j:Int)] else[] | none=>[]:List Int).length<=1:=by
   cases K[j]? with
   | none=>simp
   | some v=>dsimp only;split <;> simp
  omega
theorem vZ (part:Key->Int) (K:List Key) (S:List Int) (j:Nat):St j (plK part K S j):=⟨uC part K S j,λx hx=>by
 obtain⟨i,h1,h2,_⟩:=(pg part K S j x).1 hx
 omega⟩
end Go.Proofs.YtleekpaohfpooaaGreat
set_option linter.unusedVariables false
set_option linter.unusedSimpArgs false
namespace Go.Proofs.YtleekpaohfpooaaGreat
open Go Go.Wk Go.Proofs
def b01 (b:Bool):Int:=if b then 1 else 0
theorem mE (b:Bool):0<=b01 b/\b01 b<=1:=by cases b <;> decide
def mx (x y:Int):Int:=if x<y then y else x
def monNext (k q:Int) (a b:Bool):Int:=
 if k=1 then mx q (1-b01 a)
 else if k=2 then(if q=2\/(q=1/\b=false) then 2 else b01 a)
 else if k=3 then(if b=true then 0 else mx q (b01 a))
 else if k=4 then b01 a
 else if k=5 then 1-b01 a
 else if k=6 then mx q (b01 a)
 else 2 * b01 a+b01 b
def monStates (k:Int):Nat:=if k=2 then 3 else if k=7 then 4 else 2
def monPair (k:Int):Pair:=
 if k=1\/k=5 then⟨[1],[]⟩ else if k=2 then⟨[2],[]⟩ else if k=3 then⟨[1],[0]⟩ else if k=4 then⟨[0,1],[1]⟩ else if k=6 then⟨[0],[]⟩ else⟨[2,3],[1,3]⟩
def numsN (n:Nat):List Int:=(List.range n).map (λi:Nat=>(i:Int))
theorem lu (n:Nat):numsN (n+1)=numsN n++[(n:Int)]:=by simp[numsN,List.range_succ]
theorem gF (n:Nat):(numsN n).length=n:=by simp[numsN]
def monRow (c:Clause) (n:Nat) (q:Int):List Int:=(numsN n).map λx=>monNext c.Kind q (decide (x∈c.A)) (decide (x∈c.B))
def monD (c:Clause) (n:Nat):Det:=⟨(numsN (monStates c.Kind)).map (monRow c n),[monPair c.Kind]⟩
theorem kinds {k:Int}(h1:1<=k) (h2:k<=7):k=1\/k=2\/k=3\/k=4\/k=5\/k=6\/k=7:=by omega
theorem qi {k q:Int}(h1:1<=k) (h2:k<=7) (q0:0<=q) (q1:q<monStates k) (a b:Bool):0<=monNext k q a b/\monNext k q a b<monStates k:=by
 rcases kinds h1 h2 with h | h | h | h | h | h | h <;> subst h <;> cases a <;> cases b <;> simp only[monNext,monStates,mx,b01]at * <;> simp at * <;> (repeat' split) <;> omega
section
variable {p:Sig}(hs:sigOk p=true){c:Clause}(hb:Clause.bd c) (hc:cm p c=true)
include hs hc
omit hs in
theorem lM:1<=c.Kind/\c.Kind<=7:=by
 unfold cm at hc
 simp only[yH,decide_eq_true_eq]at hc
 exact⟨hc.1.1.1.1,hc.1.1.1.2⟩
omit hs in
theorem vd {q:Int}(q0:0<=q) (q1:q<=10) (x:Int):kG c q x=some (monNext c.Kind q (decide (x∈c.A)) (decide (x∈c.B))):=by
 obtain⟨k1,k2⟩:=lM hc
 unfold kG
 rw[pv,bE,pv]
 have hf:∀b:Bool,fL b=some (b01 b):=λb=>by unfold fL;cases b <;> rfl
 have hmx:∀x y:Int,jx x y=some (mx x y):=λx y=>by
  unfold jx mx
  by_cases h:y<x
  · rw[decide_eq_true h,if_neg (by omega)];rfl
  · rw[decide_eq_false h]
    by_cases h':x<y
    · rw[if_pos h'];rfl
    · rw[if_neg h']
      have:x=y:=by omega
      subst this;rfl
 rw[hf,bE,bE,hf,bE]
 generalize decide (x∈c.A)=a
 generalize decide (x∈c.B)=b
 have w1:IntKind.i64.wrap (1-b01 a)=1-b01 a:=by have:=mE a;exact wr' (by omega) (by omega)
 have w2:IntKind.i64.wrap (2 * b01 a)=2 * b01 a:=by have:=mE a;exact wr' (by omega) (by omega)
 have w3:IntKind.i64.wrap (2 * b01 a+b01 b)=2 * b01 a+b01 b:=by have:=mE a;have:=mE b;exact wr' (by omega) (by omega)
 rw[w1,w2,w3]
 rcases kinds k1 k2 with h | h | h | h | h | h | h <;> rw[h] <;> unfold monNext
 · simp[hmx]
 · by_cases hq2:q=2
   · subst hq2;simp
   · by_cases hq1:q=1
     · subst hq1;cases b <;> simp[b01]
     · have e1:(q==2)=false:=by simpa using hq2
       have e2:(q==1)=false:=by simpa using hq1
       simp[e1,e2,hq2,hq1]
 · cases b <;> simp[b01,hmx]
 · simp
 · simp
 · simp[hmx]
 · simp
omit hs in
theorem uK {q:Int}(q0:0<=q) (q1:q<=10) (a b:Bool):fY c.Kind q a b=some (monNext c.Kind q a b):=by
 obtain⟨k1,k2⟩:=lM hc
 unfold fY
 have e1:(bif a then some (1:Int) else some 0)=some (b01 a):=by cases a <;> rfl
 have e2:(bif b then some (true,(1:Int)) else some (false,(0:Int)))=some (b,b01 b):=by cases b <;> rfl
 rw[e1,e2,bE,bE]
 dsimp only
 have w1:IntKind.i64.wrap (1-b01 a)=1-b01 a:=by have:=mE a;exact wr' (by omega) (by omega)
 have w2:IntKind.i64.wrap (2 * b01 a)=2 * b01 a:=by have:=mE a;exact wr' (by omega) (by omega)
 have w3:IntKind.i64.wrap (2 * b01 a+b01 b)=2 * b01 a+b01 b:=by have:=mE a;have:=mE b;exact wr' (by omega) (by omega)
 rw[w1,w2,w3]
 rcases kinds k1 k2 with h | h | h | h | h | h | h <;> rw[h] <;> unfold monNext mx
 · simp
 · by_cases hq2:q=2
   · subst hq2;simp
   · by_cases hq1:q=1
     · subst hq1;cases b <;> simp[b01]
     · have e1:(q==2)=false:=by simpa using hq2
       have e2:(q==1)=false:=by simpa using hq1
       simp[e1,e2,hq2,hq1]
 · cases b <;> simp[b01]
 · simp
 · simp
 · simp
 · simp
include hb
theorem vg {n:Nat}(hn:ltr p=n):jk p c=some (monD c n):=by
 obtain⟨k1,k2⟩:=lM hc
 obtain⟨l1,l2⟩:=lU hs
 have hst:i9 c.Kind=some ((monStates c.Kind:Nat):Int):=by
  unfold i9 monStates
  rcases kinds k1 k2 with h | h | h | h | h | h | h <;> rw[h] <;> rfl
 have hpr:lg c.Kind=some (monPair c.Kind):=by
  unfold lg monPair
  rcases kinds k1 k2 with h | h | h | h | h | h | h <;> rw[h] <;> rfl
 have hns:monStates c.Kind<=4:=by unfold monStates;(repeat' split) <;> omega
 unfold jk
 rw[kx hs hb,hc,bE,yJ,cond_false,hpr,bE]
 obtain⟨o,w1,w2⟩:=cB (f:=fB p c) (λj (s:Int×List (List Int))=>s.1=(j:Int)/\j<=monStates c.Kind/\s.2=(numsN j).map (monRow c n)) (λ_=>False) (λs=>s.2=(numsN (monStates c.Kind)).map (monRow c n)) (monStates c.Kind) (λj s ⟨a1,a2,a3⟩=>by
  obtain⟨q,xs⟩:=s
  dsimp only at a1 a3
  subst a1
  unfold fB
  dsimp only
  rw[hst,bE]
  by_cases hlt:j<monStates c.Kind
  · obtain⟨o2,v1,v2⟩:=cB (f:=fJ p c ((j:Int),xs)) (λi (s:List Int×Int)=>s.2=(i:Int)/\i<=n/\s.1=(numsN i).map λx=>monNext c.Kind (j:Int) (decide (x∈c.A)) (decide (x∈c.B))) (λ_=>False) (λs=>s.1=monRow c n (j:Int)) n (λi s ⟨b1,b2,b3⟩=>by
     obtain⟨ys,x⟩:=s
     dsimp only at b1 b3
     subst b1
     unfold fJ
     dsimp only
     rw[dV hs,bE,hn]
     by_cases hi:i<n
     · rw[decide_eq_true (show(i:Int)<(n:Int) by omega),cond_true,vd hc (by omega) (by omega),bE,app1 (by rw[b3,yW,gF];omega) rfl,bE]
       refine⟨_,rfl,hi,by dsimp only;rw[wr' (by omega) (by omega)];omega,by omega,?_⟩
       dsimp only
       rw[b3,lu,List.map_append];rfl
     · have:i=n:=by omega
       subst this
       rw[decide_eq_false (Int.lt_irrefl _),cond_false]
       exact⟨_,rfl,b3⟩) (2 ^ 64) 0 ([],0) (by omega) ⟨rfl,Nat.zero_le _,rfl⟩ (by omega)
    match o2,v2 with
    | .inr s,v2=>
     have v2:s.1=monRow c n (j:Int):=v2
     rw[decide_eq_true (show(j:Int)<((monStates c.Kind:Nat):Int) by omega),cond_true,v1,bE,bJ,app1 (by rw[a3,yW,gF];omega) rfl,bE]
     refine⟨_,rfl,hlt,by dsimp only;rw[wr' (by omega) (by omega)];omega,by omega,?_⟩
     dsimp only
     rw[a3,v2,lu,List.map_append];rfl
  · have:j=monStates c.Kind:=by omega
    rw[this]at a3 ⊢
    rw[decide_eq_false (Int.lt_irrefl _),cond_false]
    exact⟨_,rfl,a3⟩) (2 ^ 64) 0 (0,[]) (by omega) ⟨rfl,Nat.zero_le _,rfl⟩ (by omega)
 match o,w2 with
 | .inr s,w2=>
  have w2:s.2=(numsN (monStates c.Kind)).map (monRow c n):=w2
  rw[w1,bE,bJ,w2];rfl
omit hb in
theorem uZ {n:Nat}(hn:ltr p=n):jf p c=some (monD c n):=by
 obtain⟨k1,k2⟩:=lM hc
 obtain⟨l1,l2⟩:=lU hs
 have hns:monStates c.Kind<=4:=by unfold monStates;(repeat' split) <;> omega
 have hrow:∀q:Nat,q<=10->cntM (eh c (q:Int)) n 0 []=some (.inr (monRow c n (q:Int))):=λq hq=>by
  obtain⟨s,h1,h2⟩:=bX (f:=eh c (q:Int)) (λi s=>s=(numsN i).map λx=>monNext c.Kind (q:Int) (decide (x∈c.A)) (decide (x∈c.B))) n (s:=[]) rfl (λi s hi hs'=>by
   subst hs'
   have hcon:∀l:List Int,bO l (i:Int)=some (decide ((i:Int)∈l)):=λl=>by
    rw[dw]
    congr 1
    rw[yR,List.any_eq_true,decide_eq_true_eq]
    exact⟨λ⟨y,hy,e⟩=>(show(i:Int)=y by simpa using e) ▸ hy,λh=>⟨_,h,by simp⟩⟩
   unfold eh
   rw[hcon,hcon,bE,bE,uK hc (by omega) (by omega),bE,app1 (by rw[yW,gF];omega) rfl,bE]
   exact⟨_,rfl,by rw[lu,List.map_append];rfl⟩)
  rw[h1,h2];rfl
 have hall:∀m:Nat,m<=4->cntM (d9 p c) m 0 []=some (.inr ((numsN m).map (monRow c n))):=λm hm=>by
  obtain⟨s,h1,h2⟩:=bX (f:=d9 p c) (λi s=>s=(numsN i).map (monRow c n)) m (s:=[]) rfl (λi s hi hs'=>by
   subst hs'
   have hr:rng (n:Int)=some ():=by unfold rng;rw[if_pos (by omega)]
   unfold d9
   rw[j4 hs,bE,hn,hr,bE,Int.sub_zero,yN,hrow i (by omega),bE,bJ,app1 (by rw[yW,gF];omega) rfl,bE]
   exact⟨_,rfl,by rw[lu,List.map_append];rfl⟩)
  rw[h1,h2]
 unfold jf monD monPair monStates
 rcases kinds k1 k2 with h | h | h | h | h | h | h <;> rw[h]
 · have:=hall 2 (by omega)
   simp[rng,this,bJ]
 · have:=hall 3 (by omega)
   simp[rng,this,bJ]
 · have:=hall 2 (by omega)
   simp[rng,this,bJ]
 · have:=hall 2 (by omega)
   simp[rng,this,bJ]
 · have:=hall 2 (by omega)
   simp[rng,this,bJ]
 · have:=hall 2 (by omega)
   simp[rng,this,bJ]
 · have:=hall 4 (by omega)
   simp[rng,this,bJ]
omit hs hb in
theorem wR {n:Nat}(hn:ltr p=n):detOk p (monD c n)=true/\(monD c n).Pairs.length=1:=by
 obtain⟨k1,k2⟩:=lM hc
 have hl:(monD c n).Next.length=monStates c.Kind:=by
  show((numsN _).map _).length=_
  rw[yW,gF]
 refine⟨?_,rfl⟩
 unfold detOk
 rw[hl]
 have hns:1<=monStates c.Kind/\monStates c.Kind<=4:=by unfold monStates;(repeat' split) <;> omega
 have hp:pairsOk (monD c n).Pairs (monStates c.Kind:Int)=true:=by
  show pairsOk [monPair c.Kind] _=true
  unfold monPair monStates
  rcases kinds k1 k2 with h | h | h | h | h | h | h <;> rw[h] <;> decide
 have hr:((monD c n).Next.all (detRow p (monStates c.Kind:Int)))=true:=by
  rw[List.all_eq_true]
  intro row hrow
  obtain⟨q,hq,rfl⟩:=List.mem_map.1 (show row∈(numsN (monStates c.Kind)).map (monRow c n) from hrow)
  obtain⟨i,hi,rfl⟩:=List.mem_map.1 hq
  rw[List.mem_range]at hi
  unfold detRow monRow
  rw[yW,gF,yH,List.all_eq_true]
  refine⟨by rw[beq_iff_eq];unfold ltd;unfold ltr at hn;exact hn.symm,λx hx=>?_⟩
  obtain⟨y,_,rfl⟩:=List.mem_map.1 hx
  exact cQ.2 (qi k1 k2 (by omega) (by omega) _ _)
 rw[hp,hr,decide_eq_true (by omega),decide_eq_true (by omega)];rfl
end
end Go.Proofs.YtleekpaohfpooaaGreat
set_option linter.unusedVariables false
set_option linter.unusedSimpArgs false
namespace Go.Proofs.YtleekpaohfpooaaGreat
open Go Go.Wk Go.Proofs
def kyJ (a b:Det) (v:Key) (x:Int):Key:=(tab a.Next v.1 x,tab b.Next v.2 x)
def toL (v:Key):List Int:=[v.1,v.2]
def plP (part:Key->Int) (K:List Key) (p:Pair):Pair:=⟨plK part K p.Ask K.length,plK part K p.Give K.length⟩
def jD (a b:Det) (K:List Key) (R:List (List Int)):Det:=⟨R,a.Pairs.map (plP (·.1) K)++b.Pairs.map (plP (·.2) K)⟩
def zeroD:Det:=⟨[],[]⟩
def locI (K:List Key) (k:Key):Int:=match loc K k with | some i=>(i:Int) | none=> -1
theorem uh {α:Type}{F:List Key->Int->Option α}{K:List Key}{k:Key}{app:Option (List Key)}(ha:app=some (K++[k])):
 (bC (bif decide (locI K k<0) then bC app λx=>some (x,(K.length:Int)) else some (K,locI K k)) λq=>F q.1 q.2)=F (addK K k) (atK K k):=by
 unfold locI addK atK
 cases h:loc K k with
 | none=>
  dsimp only
  rw[decide_eq_true (by omega),cond_true,ha];rfl
 | some i=>
  dsimp only
  rw[decide_eq_false (by omega),cond_false];rfl
theorem vA {K:List Key}(hl:K.length<=1000) (k:Key):jU (K.map toL) k.1 k.2=some (locI K k):=by
 unfold jU
 rw[fU (f:=gf (K.map toL) k.1 k.2) (λl=>l==toL k) (λi=>(i:Int)) (xs:=K.map toL) (λi l hl=>by
  rw[List.getElem?_map]at hl
  obtain⟨v,hv,rfl⟩:=Option.map_eq_some_iff.1 hl
  unfold gf
  rw[bH,List.getElem?_map,hv]
  show bC (some (toL v)) _=_
  rw[bE]
  show bC (some v.1) _=_
  rw[bE]
  have e:(toL v==toL k)=(v.1==k.1&&v.2==k.2):=by
   rw[yR]
   simp[toL]
  rw[e]
  cases h1:v.1==k.1 with
  | false=>rfl
  | true=>
   rw[cond_true]
   show bC (bC (some (toL v)) λx25=>bC (idx x25 1) λx27=>some (x27==k.2)) _=_
   rw[bE]
   show bC (bC (some v.2) λx27=>some (x27==k.2)) _=_
   rw[bE,bE]
   cases v.2==k.2 <;> rfl),bE]
 unfold locI loc
 have hf:(K.map toL).findIdx? (λl=>l==toL k)=K.findIdx? (λx=>k==x):=by
  rw[List.findIdx?_map]
  congr 1
  funext v
  rw[yR]
  simp only[Function.comp_apply,beq_iff_eq,toL,List.cons.injEq,and_true]
  exact⟨λ⟨h1,h2⟩=>Prod.ext h1.symm h2.symm,λh=>by rw[h];exact⟨rfl,rfl⟩⟩
 rw[hf]
 cases K.findIdx? (λx=>k==x) <;> rfl
theorem vP {K:List Key}(k:Key):co K k=some (locI K k):=by
 unfold co
 rw[fU (f:=ck K k) (λx=>k==x) (λi=>(i:Int)) (xs:=K) (λi x hx=>by
  unfold ck
  rw[bH,hx,bE]
  have e:(k.1==x.1&&k.2==x.2)=(k==x):=by
   rw[yR]
   simp only[yH,beq_iff_eq]
   exact⟨λ⟨h1,h2⟩=>Prod.ext h1 h2,λh=>by rw[h];exact⟨rfl,rfl⟩⟩
  first
   | rw[e]
   | skip
  cases k==x <;> rfl),bE]
 unfold locI loc
 cases K.findIdx? (λx=>k==x) <;> rfl
section
variable {p:Sig}{a b:Det}(ha:detOk p a=true) (hb:detOk p b=true){k:Nat}(hk:ltd p=k)
include ha hb hk
theorem tq {v:Key}(v0:0<=v.1) (v1:v.1<a.Next.length) (v2:0<=v.2) (v3:v.2<b.Next.length){x:Nat}(hx:x<k):
 ∃r s,idx a.Next v.1=some r/\idx r (x:Int)=some (kyJ a b v x).1/\idx b.Next v.2=some s/\idx s (x:Int)=some (kyJ a b v x).2/\0<=(kyJ a b v x).1/\(kyJ a b v x).1<a.Next.length/\0<=(kyJ a b v x).2/\(kyJ a b v x).2<b.Next.length:=by
 obtain⟨_,_,_,n1⟩:=iy ha
 obtain⟨_,_,_,n2⟩:=iy hb
 obtain⟨r,r1,r2,r3,r4⟩:=lj n1 v0 v1 (i:=(x:Int)) (by omega) (by omega)
 obtain⟨s,s1,s2,s3,s4⟩:=lj n2 v2 v3 (i:=(x:Int)) (by omega) (by omega)
 exact⟨r,s,r1,r2,s1,s2,r3,r4,s3,s4⟩
def KinJ (a b:Det) (K:List Key):Prop:=∀v∈K,0<=v.1/\v.1<a.Next.length/\0<=v.2/\v.2<b.Next.length
theorem wL {K:List Key}(hK:KinJ a b K){v:Key}(hv:v∈K):KinJ a b (rowK (kyJ a b v) K k).1:=λu hu=>by
 obtain⟨v0,v1,v2,v3⟩:=hK v hv
 rcases(mT (kyJ a b v) K k).mem u hu with h | ⟨i,hi,e⟩
 · exact hK u h
 · subst e
   obtain⟨_,_,_,_,_,_,h⟩:=tq ha hb hk v0 v1 v2 v3 hi
   exact h
theorem xH {K:List Key}(hl:K.length<=48) (h16:k<=16) (hK:KinJ a b K){i:Nat}{v:Key}(hv:K[i]? =some v){R:List (List Int)}{row:List Int}(hr:idx a.Next v.1=some row) (hrl:row.length=k):
 cntM (ec b (K,(i:Int),R) row) k 0 (K,[])=some (.inr (rowK (kyJ a b v) K k)):=by
 obtain⟨v0,v1,v2,v3⟩:=hK v (yB hv)
 obtain⟨s,h1,h2,_⟩:=bX (f:=ec b (K,(i:Int),R) row) (λj s=>s=rowK (kyJ a b v) K j/\j<=k) k (s:=(K,[])) ⟨rfl,Nat.zero_le _⟩ (λj s hj ⟨e,_⟩=>by
  subst e
  obtain⟨r,s,r1,r2,s1,s2,_⟩:=tq ha hb hk v0 v1 v2 v3 hj
  rw[hr]at r1
  cases r1
  have rk:=mT (kyJ a b v) K j
  have hlt:=rk.le
  have hrl':=rk.rl
  refine⟨rowK (kyJ a b v) K (j+1),?_,rfl,hj⟩
  unfold ec
  dsimp only
  rw[r2,bE,bH,rk.pre i v hv,bE,s1,bE,s2,bE]
  have hix:=vP (K:=(rowK (kyJ a b v) K j).1) (kyJ a b v j)
  rw[show((kyJ a b v j).1,(kyJ a b v j).2)=kyJ a b v j from rfl,hix,bE]
  have hst:=uh (K:=(rowK (kyJ a b v) K j).1) (k:=kyJ a b v j) (F:=λx y=>bC (appS 8 (rowK (kyJ a b v) K j).2 [y]) λx83=>(some (.inr (.inr (x,x83))):Option ((Det×Bool)⊕((List Key×List Int)⊕(List Key×List Int))))) (app:=appS 16 (rowK (kyJ a b v) K j).1 [kyJ a b v j]) (app1 (by omega) rfl)
  refine Eq.trans hst ?_
  show bC (appS 8 (rowK (kyJ a b v) K j).2 [_]) _=_
  rw[app1 (by omega) rfl,bE]
  rfl)
 rw[h1,h2]
theorem xG {K:List Key}(hl:K.length<=48) (h16:k<=16) (hK:KinJ a b K){i:Nat}{v:Key}(hv:K[i]? =some v){M:List (List Int)}{R:List (List Int)}:
 cntM (d8 a b (M,(i:Int),R)) k 0 (K.map toL,[])=some (.inr ((rowK (kyJ a b v) K k).1.map toL,(rowK (kyJ a b v) K k).2)):=by
 obtain⟨v0,v1,v2,v3⟩:=hK v (yB hv)
 obtain⟨s,h1,h2,_⟩:=bX (f:=d8 a b (M,(i:Int),R)) (λj s=>s=((rowK (kyJ a b v) K j).1.map toL,(rowK (kyJ a b v) K j).2)/\j<=k) k (s:=(K.map toL,[])) ⟨rfl,Nat.zero_le _⟩ (λj s hj ⟨e,_⟩=>by
  subst e
  obtain⟨r,s,r1,r2,s1,s2,_⟩:=tq ha hb hk v0 v1 v2 v3 hj
  have rk:=mT (kyJ a b v) K j
  have hlt:=rk.le
  have hrl':=rk.rl
  refine⟨((rowK (kyJ a b v) K (j+1)).1.map toL,(rowK (kyJ a b v) K (j+1)).2),?_,rfl,hj⟩
  unfold d8
  dsimp only
  have g1:idx ((rowK (kyJ a b v) K j).1.map toL) (i:Int)=some (toL v):=by
   rw[bH,List.getElem?_map,rk.pre i v hv];rfl
  have g2:idx (toL v) 0=some v.1:=rfl
  have g3:idx (toL v) 1=some v.2:=rfl
  rw[g1,bE,g2,bE,r1,bE,r2,bE,bE,g3,bE,s1,bE,s2,bE,vA (by omega),bE]
  have hst:=uh (K:=(rowK (kyJ a b v) K j).1) (k:=kyJ a b v j) (F:=λx y=>bC (appS 8 (rowK (kyJ a b v) K j).2 [y]) λx83=>(some (.inr (.inr (x.map toL,x83))):Option ((Det×Bool)⊕(((List (List Int))×List Int)⊕((List (List Int))×List Int))))) (app:=some ((rowK (kyJ a b v) K j).1++[kyJ a b v j])) rfl
  rw[app1 (by omega) rfl]at hst
  have e2:appS 24 ((rowK (kyJ a b v) K j).1.map toL) [[(kyJ a b v j).1,(kyJ a b v j).2]]=some (((rowK (kyJ a b v) K j).1++[kyJ a b v j]).map toL):=by
   rw[app1 (by rw[yW];omega) rfl,List.map_append];rfl
  rw[e2,yW]
  rw[bE]at hst
  cases hd:decide (locI (rowK (kyJ a b v) K j).1 (kyJ a b v j)<0) with
  | true=>
   rw[hd]at hst
   simp only[cond_true,bE]at hst ⊢
   exact hst
  | false=>
   rw[hd]at hst
   simp only[cond_false,bE]at hst ⊢
   exact hst)
 rw[h1,h2]
end
end Go.Proofs.YtleekpaohfpooaaGreat
set_option linter.unusedVariables false
set_option linter.unusedSimpArgs false
namespace Go.Proofs.YtleekpaohfpooaaGreat
open Go Go.Wk Go.Proofs
theorem conI (l:List Int) (v:Int):bO l v=some (decide (v∈l)):=by
 rw[dw]
 congr 1
 rw[yR,List.any_eq_true,decide_eq_true_eq]
 exact⟨λ⟨y,hy,e⟩=>(show v=y by simpa using e) ▸ hy,λh=>⟨_,h,by simp⟩⟩
theorem n8 {part:Key->Int}{K:List Key}{S:List Int}{j:Nat}{v:Key}(hv:K[j]? =some v) (hl:j<=1000):(bif decide (part v∈S) then bC (appS 8 (plK part K S j) [(j:Int)]) λx=>some x else some (plK part K S j))=some (plK part K S (j+1)):=by
 have hp:=uy part K S j
 have e:plK part K S (j+1)=plK part K S j++(match K[j]? with | some v=>if part v∈S then[(j:Int)] else[] | none=>[]):=rfl
 rw[e,hv]
 dsimp only
 by_cases h:part v∈S
 · rw[decide_eq_true h,cond_true,app1 (by omega) rfl,if_pos h];rfl
 · rw[decide_eq_false h,cond_false,if_neg h,List.append_nil]
theorem sK {K:List Key}(hl:K.length<=300) (ps:List Pair) (hpl:ps.length<=4) (w:Bool):iK ps (K.map toL) (b01 w)=some (ps.map (plP (λv=>bif w then v.2 else v.1) K)):=by
 unfold iK
 obtain⟨s,h1,h2⟩:=bX (f:=gk ps (K.map toL) (b01 w)) (λj s=>s=(ps.take j).map (plP (λv=>bif w then v.2 else v.1) K)) ps.length (s:=[]) rfl (λj s hj hs=>by
  subst hs
  have hp:ps[j]? =some ps[j]:=gs hj
  generalize ps[j]=p at hp
  obtain⟨t,k1,k2⟩:=bX (f:=fX ps (K.map toL) (b01 w) (j:Int)) (λi s=>s=(plK (λv=>bif w then v.2 else v.1) K p.Ask i,plK (λv=>bif w then v.2 else v.1) K p.Give i)) (K.map toL).length (s:=([],[])) rfl (λi s hi hs=>by
   subst hs
   rw[yW]at hi
   have hv:K[i]? =some K[i]:=gs hi
   generalize K[i]=v at hv
   have g1:idx (K.map toL) (i:Int)=some (toL v):=by rw[bH,List.getElem?_map,hv];rfl
   have g2:idx (toL v) (b01 w)=some (bif w then v.2 else v.1):=by cases w <;> rfl
   have q1:=n8 (part:=λv=>bif w then v.2 else v.1) (S:=p.Ask) hv (by omega)
   have q2:=n8 (part:=λv=>bif w then v.2 else v.1) (S:=p.Give) hv (by omega)
   unfold fX
   dsimp only at q1 q2 ⊢
   rw[bH,hp,bE,g1,bE,g2,bE,pv,bE,q1,bE,bE,bE,g2,bE,pv,bE,q2,bE]
   exact⟨_,rfl,rfl⟩)
  rw[yW]at k2
  unfold gk
  rw[k1,bE,bJ,k2]
  dsimp only
  rw[app1 (by rw[yW,yP];omega) rfl,bE]
  exact⟨_,rfl,by rw[yU,hp,List.map_append];rfl⟩)
 rw[h1,bE,bJ,h2,List.take_length]
theorem sg {K:List Key}(hl:K.length<=300){ii:Int}{R:List (List Int)}(a b:Det) (w:Bool) (ps:List Pair) (acc:List Pair) (hpl:acc.length+ps.length<=8) (X:Det) (hX:X.Pairs=ps):cntM (db (K,ii,R) (b01 w) X) ps.length 0 acc=some (.inr (acc++ps.map (plP (λv=>bif w then v.2 else v.1) K))):=by
 obtain⟨s,h1,h2⟩:=bX (f:=db (K,ii,R) (b01 w) X) (λj s=>s=acc++(ps.take j).map (plP (λv=>bif w then v.2 else v.1) K)) ps.length (s:=acc) (by simp) (λj s hj hs=>by
  subst hs
  have hp:ps[j]? =some ps[j]:=gs hj
  generalize ps[j]=p at hp
  obtain⟨t,k1,k2⟩:=bX (f:=ft (K,ii,R) (b01 w) p) (λi s=>s=(plK (λv=>bif w then v.2 else v.1) K p.Ask i,plK (λv=>bif w then v.2 else v.1) K p.Give i)) K.length (s:=([],[])) rfl (λi s hi hs=>by
   subst hs
   have hv:K[i]? =some K[i]:=gs hi
   generalize K[i]=v at hv
   have g2:idx [v.1,v.2] (b01 w)=some (bif w then v.2 else v.1):=by cases w <;> rfl
   have q1:=n8 (part:=λv=>bif w then v.2 else v.1) (S:=p.Ask) hv (by omega)
   have q2:=n8 (part:=λv=>bif w then v.2 else v.1) (S:=p.Give) hv (by omega)
   unfold ft
   dsimp only at q1 q2 ⊢
   rw[bH,hv,bE,g2,bE,conI,bE,q1,bE,bE,conI,bE,q2,bE]
   exact⟨_,rfl,rfl⟩)
  unfold db
  dsimp only
  rw[hX,bH,hp,bE,k1,bE,bJ,k2]
  dsimp only
  rw[app1 (by rw[yK,yW,yP];omega) rfl,bE]
  exact⟨_,rfl,by rw[yU,hp,List.map_append,List.append_assoc];rfl⟩)
 rw[h1,h2,List.take_length]
section
variable {p:Sig}{a b:Det}(hs:sigOk p=true) (ha:detOk p a=true) (hb:detOk p b=true) (hsum:a.Pairs.length+b.Pairs.length<=4){k:Nat}(hk:ltd p=k)
include hs ha hb hsum hk
structure JK (a b:Det) (k:Nat) (K:List Key) (R:List (List Int)):Prop where
 prod:Prod (kyJ a b) k K K.length R
 kin:KinJ a b K
 le:K.length<=48
theorem sn:(eD a b (k:Int)=some (zeroD,false)/\gL a b=some (zeroD,false)/\48<a.Next.length * b.Next.length)\/∃K R,JK a b k K R/\eD a b (k:Int)=some (jD a b K R,true)/\gL a b=some (jD a b K R,true):=by
 obtain⟨a1,a2,a3,n1⟩:=iy ha
 obtain⟨b1,b2,b3,n2⟩:=iy hb
 have h16:k<=16:=by have:=lU hs;unfold ltr at this;unfold ltd at hk;omega
 have hr:rng (k:Int)=some ():=by unfold rng;rw[if_pos (by omega)]
 obtain⟨o,t,w1,w2,w3⟩:=ot (f:=fK a b (k:Int)) (g:=fv a b) (λs t=>∃K i R,s=(K.map toL,((i:Nat):Int),R)/\t=(K,((i:Nat):Int),R)/\Prod (kyJ a b) k K i R/\KinJ a b K/\K.length<=48) (λs=>100-s.2.1.toNat) (λr r'=>r=(zeroD,false)/\r'=(zeroD,false)/\48<a.Next.length * b.Next.length) (λs t=>∃K i R,s=(K.map toL,((i:Nat):Int),R)/\t=(K,((i:Nat):Int),R)/\Prod (kyJ a b) k K i R/\KinJ a b K/\K.length<=48/\i=K.length) (λs t ⟨K,i,R,e1,e2,hP,hK,hl⟩=>by
  subst e1 e2
  unfold fK fv
  dsimp only
  rw[yW]
  by_cases hlt:i<K.length
  · have hv:K[i]? =some K[i]:=gs hlt
    generalize K[i]=v at hv
    obtain⟨v0,v1,v2,v3⟩:=hK v (yB hv)
    obtain⟨row,hrow,hmem⟩:=iI (xs:=a.Next) v0 v1
    have hrl:row.length=k:=by have:=(n1 row hmem).1;omega
    have e1:=xG ha hb hk hl h16 hK hv (M:=K.map toL) (R:=R)
    have e2:=xH ha hb hk hl h16 hK hv (R:=R) hrow hrl
    have rk:=mT (kyJ a b v) K k
    have hK':=wL ha hb hk hK (yB hv)
    have hP':=hP.step hv
    generalize rowK (kyJ a b v) K k=G at *
    have hle:=rk.le
    have hRl:=hP.rl
    rw[decide_eq_true (show(i:Int)<(K.length:Int) by omega),cond_true,cond_true,hr,bE,Int.sub_zero,yN,e1,bE,bJ,bH,hv,bE,hrow,bE,hrl,e2,bE,bJ]
    dsimp only
    rw[yW]
    by_cases hbig:48<G.1.length
    · rw[decide_eq_true (show(48:Int)<(G.1.length:Int) by omega),cond_true,cond_true]
      exact⟨_,_,rfl,rfl,rfl,rfl,Nat.lt_of_lt_of_le hbig (sT hP'.nod hK')⟩
    · rw[decide_eq_false (show ¬(48:Int)<(G.1.length:Int) by omega),cond_false,cond_false,app1 (by omega) rfl,bE,bE,wr' (by omega) (by omega)]
      refine⟨_,_,rfl,rfl,⟨G.1,i+1,R++[G.2],rfl,rfl,hP',hK',by omega⟩,?_⟩
      dsimp only;omega
  · rw[decide_eq_false (show ¬(i:Int)<(K.length:Int) by omega),cond_false,cond_false]
    have:=hP.il
    exact⟨_,_,rfl,rfl,K,i,R,rfl,rfl,hP,hK,hl,by omega⟩) (2 ^ 64) (2 ^ 64) ([[0,0]],0,[]) ([(0,0)],0,[]) (by dsimp only;omega) (by dsimp only;omega) ⟨[(0,0)],0,[],rfl,rfl,Prod.init _ _,λv hv=>by
     rw[yM]at hv
     subst hv
     exact⟨Int.le_refl _,by dsimp only;omega,Int.le_refl _,by dsimp only;omega⟩,by simp⟩
 have hsw:decide ((4:Int)<IntKind.i64.wrap ((a.Pairs.length:Int)+(b.Pairs.length:Int)))=false:=by
  rw[wr' (by omega) (by omega)]
  exact decide_eq_false (by omega)
 unfold eD gL
 rw[hsw,cond_false,w1,w2,bE,bE]
 match o,t,w3 with
 | .inl r,.inl r',w3=>
  left
  rw[w3.1,w3.2.1]
  exact⟨rfl,rfl,w3.2.2⟩
 | .inr s,.inr t,⟨K,i,R,e1,e2,hP,hK,hl,ei⟩=>
  right
  subst e1 e2 ei
  refine⟨K,R,⟨hP,hK,hl⟩,?_,?_⟩
  · rw[bJ]
    dsimp only
    have p1:=sK (K:=K) (by omega) a.Pairs (by omega) false
    have p2:=sK (K:=K) (by omega) b.Pairs (by omega) true
    rw[show b01 false=0 from rfl]at p1
    rw[show b01 true=1 from rfl]at p2
    rw[p1,bE,p2,bE,appL (by simp;omega) rfl,bE]
    rfl
  · rw[bJ]
    have q1:=sg (K:=K) (by omega) (ii:=((K.length:Nat):Int)) (R:=R) a b false a.Pairs [] (by simp;omega) a rfl
    have q2:=sg (K:=K) (by omega) (ii:=((K.length:Nat):Int)) (R:=R) a b true b.Pairs ([]++a.Pairs.map (plP (λv=>bif false then v.2 else v.1) K)) (by simp;omega) b rfl
    have c1:cH a b (K,((K.length:Nat):Int),R) 0 []=some (.inr (.inr ([]++a.Pairs.map (plP (λv=>bif false then v.2 else v.1) K)))):=by
     unfold cH
     rw[show idx [a,b] 0=some a from rfl,bE]
     have q1':cntM (db (K,((K.length:Nat):Int),R) 0 a) a.Pairs.length 0 []=_:=q1
     rw[q1',bE,bJ]
    have c2:cH a b (K,((K.length:Nat):Int),R) 1 ([]++a.Pairs.map (plP (λv=>bif false then v.2 else v.1) K))=some (.inr (.inr (([]++a.Pairs.map (plP (λv=>bif false then v.2 else v.1) K))++b.Pairs.map (plP (λv=>bif true then v.2 else v.1) K)))):=by
     unfold cH
     rw[show idx [a,b] 1=some b from rfl,bE]
     have q2':cntM (db (K,((K.length:Nat):Int),R) 1 b) b.Pairs.length 0 _=_:=q2
     rw[q2',bE,bJ]
    have c3:cntM (cH a b (K,((K.length:Nat):Int),R)) [a,b].length 0 []=some (.inr (([]++a.Pairs.map (plP (λv=>bif false then v.2 else v.1) K))++b.Pairs.map (plP (λv=>bif true then v.2 else v.1) K))):=by
     show bC (cH a b (K,((K.length:Nat):Int),R) 0 []) _=_
     rw[c1,bE]
     show bC (cH a b (K,((K.length:Nat):Int),R) (0+1) _) _=_
     rw[show(0:Int)+1=1 from rfl,c2,bE]
     rfl
    rw[c3,bE,bJ]
    rfl
end
theorem ym {p:Sig}{a b:Det}(hsum:a.Pairs.length+b.Pairs.length<=4){k:Nat}(hk:ltd p=k){K:List Key}{R:List (List Int)}(h:JK a b k K R):detOk p (jD a b K R)=true:=by
 have hl:=h.le
 have h0:=(hV.1 h.prod.zero).1
 have hR:(jD a b K R).Next.length=K.length:=h.prod.rl
 unfold detOk
 rw[hR,decide_eq_true (show(1:Int)<=(K.length:Int) by omega),decide_eq_true (show(K.length:Int)<=48 by omega)]
 have e1:pairsOk (jD a b K R).Pairs (K.length:Int)=true:=by
  unfold pairsOk
  rw[yH,decide_eq_true_eq,List.all_eq_true]
  refine⟨?_,λx hx=>?_⟩
  · show(((a.Pairs.map _++b.Pairs.map _).length:Nat):Int)<=4
    rw[yK,yW,yW];omega
  · unfold pairOk
    have:∀part:Key->Int,∀y:Pair,x=plP part K y->(cK (K.length:Int) x.Ask&&cK (K.length:Int) x.Give)=true:=λpart y e=>by
     subst e
     show(cK _ (plK part K y.Ask K.length)&&cK _ (plK part K y.Give K.length))=true
     rw[(vZ part K y.Ask K.length).ok (Int.le_refl _),(vZ part K y.Give K.length).ok (Int.le_refl _)];rfl
    rcases yT.1 (show x∈a.Pairs.map (plP (·.1) K)++b.Pairs.map (plP (·.2) K) from hx) with hx | hx
    · obtain⟨y,_,e⟩:=List.mem_map.1 hx;exact this _ y e.symm
    · obtain⟨y,_,e⟩:=List.mem_map.1 hx;exact this _ y e.symm
 have e2:((jD a b K R).Next.all (detRow p (K.length:Int)))=true:=by
  rw[List.all_eq_true]
  intro row hrow
  obtain⟨j,hj⟩:=List.getElem?_of_mem (show row∈R from hrow)
  obtain⟨r1,v,r2,r3⟩:=h.prod.row j row hj
  unfold detRow
  rw[yH,List.all_eq_true,beq_iff_eq]
  refine⟨by omega,λx hx=>cQ.2 ?_⟩
  obtain⟨i,hi⟩:=List.getElem?_of_mem hx
  have hil:=(hV.1 hi).1
  obtain⟨y,y1,y2,y3⟩:=r3 i (by omega)
  rw[hi]at y1
  cases y1
  have:=(hV.1 y3).1
  omega
 rw[e1,e2];rfl
end Go.Proofs.YtleekpaohfpooaaGreat
set_option linter.unusedVariables false
set_option linter.unusedSimpArgs false
namespace Go.Proofs.YtleekpaohfpooaaGreat
open Go Go.Wk Go.Proofs
def oneD (n:Nat):Det:=⟨[sh n 0],[]⟩
inductive PR (n:Nat):List Clause->Det->Prop
 | nil:PR n [] (oneD n)
 | snoc {cs c D K R} (h:PR n cs D) (k:JK D (monD c n) n K R):PR n (cs++[c]) (jD D (monD c n) K R)
theorem we (c:Clause) (n:Nat):(monD c n).Next.length<=4:=by
 show((numsN _).map _).length<=4
 rw[yW,gF]
 unfold monStates
 (repeat' split) <;> omega
theorem PR.size {n:Nat}{cs:List Clause}{D:Det}(h:PR n cs D):D.Next.length<=4 ^ cs.length:=by
 induction h with
 | nil=>exact Nat.le_refl _
 | @snoc cs c D K R hp k ih=>
  show R.length<=_
  rw[k.prod.rl,yK]
  exact Nat.le_trans (sT k.prod.nod k.kin) (by show _<=4 ^ (cs.length+1);rw[Nat.pow_succ];exact Nat.mul_le_mul ih (we c n))
def eY (p:Sig) (cs:List Clause):Bool:=decide ((cs.length:Int)<=3)&&cs.all (cm p)
theorem wM {p:Sig}(hs:sigOk p=true){n:Nat}(hn:ltd p=n):detOk p (oneD n)=true:=by
 have h:=lU hs
 unfold ltr at h
 unfold ltd at hn
 unfold detOk oneD
 have e:([sh n (0:Int)].all (detRow p ((1:Nat):Int)))=true:=by
  rw[List.all_eq_true]
  intro row hrow
  rw[yM]at hrow
  subst hrow
  unfold detRow ltd
  rw[List.length_replicate,yH,beq_iff_eq,List.all_eq_true]
  refine⟨hn.symm,λx hx=>?_⟩
  rw[(List.mem_replicate.1 hx).2]
  exact cQ.2 ⟨Int.le_refl _,by omega⟩
 show(decide ((1:Int)<=((1:Nat):Int))&&decide (((1:Nat):Int)<=48)&&pairsOk [] ((1:Nat):Int)&&([sh n (0:Int)].all (detRow p ((1:Nat):Int))))=true
 rw[e];rfl
theorem rZ (p:Sig){cs:List Clause}(hb:∀c∈cs,Clause.bd c):(cZ p cs=some (zeroD,false)/\cV p cs=some (zeroD,false)/\(sigOk p=true->eY p cs=true->2<cs.length)) \/
 (sigOk p=true/\eY p cs=true/\∃n D,ltd p=((n:Nat):Int)/\n<=16/\PR n cs D/\detOk p D=true/\D.Pairs.length=cs.length/\cZ p cs=some (D,true)/\cV p cs=some (D,true)):=by
 unfold cZ cV
 rw[ns]
 cases hs:sigOk p with
 | false=>
  left
  have:eE p cs=some false:=by
   unfold eE
   rw[dP,hs];rfl
  rw[this]
  exact⟨rfl,rfl,λh=>by cases h⟩
 | true=>
  rw[mg hs hb,bE,bE,yJ,cond_false,oR hs hb,bE,bE]
  show _\/(_/\eY p cs=true/\_)
  have hc':(decide ((cs.length:Int)<=3)&&cs.all (cm p))=eY p cs:=rfl
  rw[hc']
  cases hc:eY p cs with
  | false=>exact .inl ⟨rfl,rfl,λ_ h=>by cases h⟩
  | true=>
   have hcc:=hc
   unfold eY at hcc
   rw[yH,decide_eq_true_eq,List.all_eq_true]at hcc
   obtain⟨l1,l2⟩:=lU hs
   obtain⟨n,hn⟩:=ew (z:=ltr p) (by omega)
   have hn':ltd p=(n:Int):=hn
   have hmk:mkS 8 (n:Int) (0:Int)=some (sh n 0):=di (by omega) rfl
   have hone:=wM hs hn'
   rw[yJ,cond_false,cond_false,dV hs,j4 hs,hn,bE,bE,hmk,bE,bE]
   obtain⟨o,t,w1,w2,w3⟩:=pu (f:=ez p cs) (g:=ef p cs) (λj s t=>s=t/\PR n (cs.take j) ⟨s.1,s.2⟩/\detOk p ⟨s.1,s.2⟩=true/\s.2.length=j) (λr r'=>r=(zeroD,false)/\r'=(zeroD,false)/\2<cs.length) (λ_ _=>False) cs.length (λj s t hj ⟨e,hP,hd,hl⟩=>by
    subst e
    have hcj:cs[j]? =some cs[j]:=gs hj
    generalize cs[j]=c at hcj
    have hcm:=yB hcj
    obtain⟨q1,q2⟩:=wR (hcc.2 c hcm) hn
    have hsum:(⟨s.1,s.2⟩:Det).Pairs.length+(monD c n).Pairs.length<=4:=by
     rw[q2]
     show s.2.length+1<=4
     omega
    unfold ez ef
    rw[bH,hcj,bE,bE,vg hs (hb c hcm) (hcc.2 c hcm) hn,uZ hs (hcc.2 c hcm) hn,bE,bE]
    have hJ:i7 p ⟨s.1,s.2⟩ (monD c n)=eD ⟨s.1,s.2⟩ (monD c n) (n:Int):=by
     have hb1:∀D:Det,detOk p D=true->∀x∈D.Pairs,x.Ask.length<=1000000000/\x.Give.length<=1000000000:=λD hD x hx=>by
      obtain⟨d1,d2,_,_⟩:=iy hD
      unfold detOk at hD
      simp only[yH]at hD
      have hp:=hD.1.2
      unfold pairsOk at hp
      rw[yH,List.all_eq_true]at hp
      have:=hp.2 x hx
      unfold pairOk at this
      rw[yH]at this
      have a1:=(St.of this.1).len
      have a2:=(St.of this.2).len
      omega
     unfold i7
     rw[ki hs (hb1 _ hd),hd,bE,yJ,cond_false,ki hs (hb1 _ q1),q1,bE,yJ,bE,cond_false,wr' (by omega) (by omega),decide_eq_false (by omega),bE,cond_false,dV hs,hn,bE]
     cases eD ⟨s.1,s.2⟩ (monD c n) (n:Int) <;> rfl
    rw[hJ]
    rcases sn hs hd q1 hsum hn' with ⟨j1,j2,j3⟩ | ⟨K,R,hK,j1,j2⟩
    · rw[j1,j2]
      refine⟨_,_,rfl,rfl,rfl,rfl,?_⟩
      have z1:=hP.size
      have z2:(monD c n).Next.length<=4:=we c n
      rw[yP,Nat.min_eq_left (by omega)]at z1
      by_cases hj2:j<2
      · exfalso
        have z3:4 ^ j<=4 ^ 1:=Nat.pow_le_pow_right (by omega) (by omega)
        have z4:(⟨s.1,s.2⟩:Det).Next.length * (monD c n).Next.length<=4 * 4:=Nat.mul_le_mul (by omega) z2
        omega
      · omega
    · rw[j1,j2]
      refine⟨_,_,rfl,rfl,rfl,?_,ym hsum hn' hK,?_⟩
      · rw[yU,hcj]
        exact PR.snoc hP hK
      · show((s.2.map _++(monD c n).Pairs.map _).length)=_
        rw[yK,yW,yW,hl,q2]) cs.length 0 ([sh n 0],[]) ([sh n 0],[]) (by omega) ⟨rfl,PR.nil,hone,rfl⟩
   have w1':cntM (ez p cs) cs.length 0 ([sh n 0],[])=some o:=w1
   have w2':cntM (ef p cs) cs.length 0 ([sh n 0],[])=some t:=w2
   rw[w1',w2',bE,bE]
   match o,t,w3 with
   | .inl r,.inl r',w3=>
    left
    rw[w3.1,w3.2.1]
    exact⟨rfl,rfl,λ_ _=>w3.2.2⟩
   | .inr s,.inr t,.inl ⟨e,hP,hd,hl⟩=>
    right
    subst e
    rw[List.take_length]at hP
    exact⟨rfl,rfl,n,⟨s.1,s.2⟩,hn',by omega,hP,hd,hl,rfl,rfl⟩
end Go.Proofs.YtleekpaohfpooaaGreat
set_option linter.unusedVariables false
set_option linter.unusedSimpArgs false
namespace Go.Proofs.YtleekpaohfpooaaGreat.Par
open Classical
structure Gm where
 own:Int->Bool
 pri:Int->Int
 E:Int->Int->Prop
variable (G:Gm)
def oddP (d:Int):Bool:=decide (d % 2=1)
def Play (p:Bool) (D:Int->Prop) (σ:Int->Int) (π:Nat->Int):Prop:=∀n,D (π n)/\G.E (π n) (π (n+1))/\(G.own (π n)=p->π (n+1)=σ (π n))
def Wins (p:Bool) (π:Nat->Int):Prop:=∃d,oddP d=p/\(∀N,∃n,N<=n/\G.pri (π n)=d)/\∃N,∀n,N<=n->G.pri (π n)<=d
def Dom (X:Int->Prop) (p:Bool) (D:Int->Prop):Prop:=∃σ:Int->Int,(∀v,D v->X v)/\(∀v,D v->G.own v=p->G.E v (σ v)/\D (σ v))/\(∀v u,D v->¬G.own v=p->G.E v u->X u->D u)/\∀π,Play G p D σ π->Wins G p π
def NoDead (X:Int->Prop):Prop:=∀v,X v->∃u,G.E v u/\X u
structure IsAttr (X:Int->Prop) (p:Bool) (S A:Int->Prop):Prop where
 sub:∀v,A v->X v
 base:∀v,X v->S v->A v
 rank:∃r:Int->Nat,∀v,A v->S v\/(G.own v=p/\∃u,G.E v u/\A u/\r u<r v)\/(¬G.own v=p/\∀u,G.E v u->X u->A u/\r u<r v)
 mine:∀v u,X v->¬A v->G.own v=p->G.E v u->X u->¬A u
 yours:∀v,X v->¬A v->¬G.own v=p->∃u,G.E v u/\X u/\¬A u
def Mn (X A:Int->Prop):Int->Prop:=λv=>X v/\¬A v
variable {G}{X:Int->Prop}{p:Bool}{S A D D':Int->Prop}
theorem Wins.tail {π:Nat->Int}(k:Nat) (h:Wins G p (λn=>π (n+k))):Wins G p π:=by
 obtain⟨d,h1,h2,N,h3⟩:=h
 refine⟨d,h1,λM=>?_,N+k,λn hn=>?_⟩
 · obtain⟨n,hn,he⟩:=h2 M
   exact⟨n+k,by omega,he⟩
 · have:=h3 (n-k) (by omega)
   dsimp only at this
   rwa [show n-k+k=n from by omega]at this
theorem Wins.not_both {π:Nat->Int}(h:Wins G p π) (h':Wins G (!p) π):False:=by
 obtain⟨d,a1,a2,N,a3⟩:=h
 obtain⟨e,b1,b2,M,b3⟩:=h'
 obtain⟨n,n1,n2⟩:=a2 M
 obtain⟨m,m1,m2⟩:=b2 N
 have:=b3 n n1
 have:=a3 m m1
 have:d=e:=by omega
 subst this
 rw[a1]at b1
 cases p <;> cases b1
theorem Play.tail {σ:Int->Int}{π:Nat->Int}(h:Play G p D σ π) (k:Nat):Play G p D σ (λn=>π (n+k)):=λn=>by
 have:=h (n+k)
 rwa [show n+k+1=n+1+k from by omega]at this
theorem Dom.disj (h:Dom G X p D) (h':Dom G X (!p) D'){v:Int}(hv:D v) (hv':D' v):False:=by
 obtain⟨σ,a1,a2,a3,a4⟩:=h
 obtain⟨τ,b1,b2,b3,b4⟩:=h'
 let f:Int->Int:=λv=>if G.own v=p then σ v else τ v
 let π:Nat->Int:=λn=>Nat.rec v (λ_ x=>f x) n
 have hs:∀n,π (n+1)=f (π n):=λn=>rfl
 have key:∀w,D w->D' w->G.E w (f w)/\D (f w)/\D' (f w):=λw hw hw'=>by
  by_cases ho:G.own w=p
  · have e:f w=σ w:=if_pos ho
    obtain⟨k1,k2⟩:=a2 w hw ho
    rw[e]
    exact⟨k1,k2,b3 w _ hw' (by rw[ho];cases p <;> simp) k1 (a1 _ k2)⟩
  · have e:f w=τ w:=if_neg ho
    obtain⟨k1,k2⟩:=b2 w hw' (by revert ho;cases G.own w <;> cases p <;> simp)
    rw[e]
    exact⟨k1,a3 w _ hw ho k1 (b1 _ k2),k2⟩
 have inv:∀n,D (π n)/\D' (π n):=λn=>by
  induction n with
  | zero=>exact⟨hv,hv'⟩
  | succ n ih=>
   obtain⟨_,k2,k3⟩:=key _ ih.1 ih.2
   rw[hs];exact⟨k2,k3⟩
 refine(a4 π λn=>⟨(inv n).1,by rw[hs];exact(key _ (inv n).1 (inv n).2).1,λho=>by rw[hs];exact if_pos ho⟩).not_both (b4 π λn=>⟨(inv n).2,by rw[hs];exact(key _ (inv n).1 (inv n).2).1,λho=>by rw[hs];exact if_neg (by rw[ho];cases p <;> simp)⟩)
theorem Dom.empty:Dom G X p (λ_=>False):=⟨id,λ_ h=>h.elim,λ_ h=>h.elim,λ_ _ h=>h.elim,λπ h=>(h 0).1.elim⟩
theorem Dom.congr (h:Dom G X p D) (e:∀v,D v↔D' v):Dom G X p D':=by
 have:D=D':=funext λv=>propext (e v)
 exact this ▸ h
theorem descent {r:Nat->Nat}(h:∀n,r (n+1)<r n):False:=by
 have:∀n,r n+n<=r 0:=λn=>by
  induction n with
  | zero=>omega
  | succ n ih=>have:=h n;omega
 have:=this (r 0+1)
 omega
theorem Dom.grow (h1:Dom G X p D) (hA:IsAttr G X p D A) (h2:Dom G (Mn X A) p D'):Dom G X p (λv=>A v\/D' v):=by
 obtain⟨σ,a1,a2,a3,a4⟩:=h1
 obtain⟨τ,b1,b2,b3,b4⟩:=h2
 obtain⟨r,hr⟩:=hA.rank
 have hDA:∀v,D v->A v:=λv hv=>hA.base v (a1 v hv) hv
 let f:Int->Int:=λv=>if D v then σ v else if h:∃u,G.E v u/\A u/\r u<r v then h.choose else τ v
 have fD:∀v,D v->f v=σ v:=λv hv=>if_pos hv
 have fA:∀v,A v->¬D v->G.own v=p->G.E v (f v)/\A (f v)/\r (f v)<r v:=λv hv hd ho=>by
  rcases hr v hv with h | ⟨_,h⟩ | ⟨h,_⟩
  · exact absurd h hd
  · have e:f v=h.choose:=by show(if D v then _ else _)=_;rw[if_neg hd,dif_pos h]
    rw[e];exact h.choose_spec
  · exact absurd ho h
 have fT:∀v,D' v->G.own v=p->f v=τ v:=λv hv ho=>by
  obtain⟨hx,ha⟩:=b1 v hv
  have:¬∃u,G.E v u/\A u/\r u<r v:=λ⟨u,k1,k2,_⟩=>hA.mine v u hx ha ho k1 (hA.sub u k2) k2
  show(if D v then _ else _)=_
  rw[if_neg (λh=>ha (hDA v h)),dif_neg this]
 refine⟨f,?_,?_,?_,?_⟩
 · rintro v (h | h)
   · exact hA.sub v h
   · exact(b1 v h).1
 · rintro v (h | h) ho
   · by_cases hd:D v
     · rw[fD v hd];exact⟨(a2 v hd ho).1,.inl (hDA _ (a2 v hd ho).2)⟩
     · exact⟨(fA v h hd ho).1,.inl (fA v h hd ho).2.1⟩
   · rw[fT v h ho];exact⟨(b2 v h ho).1,.inr (b2 v h ho).2⟩
 · rintro v u (h | h) ho he hx
   · by_cases hd:D v
     · exact .inl (hDA u (a3 v u hd ho he hx))
     · rcases hr v h with h' | ⟨h',_⟩ | ⟨_,h'⟩
       · exact absurd h' hd
       · exact absurd h' ho
       · exact .inl (h' u he hx).1
   · by_cases ha:A u
     · exact .inl ha
     · exact .inr (b3 v u h ho he ⟨hx,ha⟩)
 · intro π hπ
   have hX:∀n,X (π n):=λn=>by
    rcases(hπ n).1 with h | h
    · exact hA.sub _ h
    · exact(b1 _ h).1
   by_cases hD:∃n,D (π n)
   · obtain⟨n,hn⟩:=hD
     have st:∀k,D (π (k+n)):=λk=>by
      induction k with
      | zero=>rwa [Nat.zero_add]
      | succ k ih=>
       have e:k+1+n=k+n+1:=by omega
       by_cases ho:G.own (π (k+n))=p
       · have:=(hπ (k+n)).2.2 ho
         rw[fD _ ih]at this
         rw[e,this]
         exact(a2 _ ih ho).2
       · rw[e];exact a3 _ _ ih ho (hπ (k+n)).2.1 (hX _)
     refine Wins.tail n (a4 _ λk=>⟨st k,?_,λho=>?_⟩)
     · have:=(hπ (k+n)).2.1
       rwa [show k+n+1=k+1+n from by omega]at this
     · have:=(hπ (k+n)).2.2 ho
       rw[fD _ (st k),show k+n+1=k+1+n from by omega]at this
       exact this
   · have hD:∀n,¬D (π n):=λn h=>hD ⟨n,h⟩
     by_cases hA':∃n,A (π n)
     · obtain⟨n,hn⟩:=hA'
       have step:∀m,A (π m)->A (π (m+1))/\r (π (m+1))<r (π m):=λm hm=>by
        by_cases ho:G.own (π m)=p
        · rw[(hπ m).2.2 ho];exact(fA _ hm (hD m) ho).2
        · rcases hr _ hm with h' | ⟨h',_⟩ | ⟨_,h'⟩
          · exact absurd h' (hD m)
          · exact absurd h' ho
          · exact h' _ (hπ m).2.1 (hX _)
       have st:∀k,A (π (k+n)):=λk=>by
        induction k with
        | zero=>rwa [Nat.zero_add]
        | succ k ih=>rw[show k+1+n=k+n+1 from by omega];exact(step _ ih).1
       exact(descent (r:=λk=>r (π (k+n))) λk=>by
        have:=(step _ (st k)).2
        rwa [show k+n+1=k+1+n from by omega]at this).elim
     · have hT:∀n,D' (π n):=λn=>(hπ n).1.resolve_left λh=>hA' ⟨n,h⟩
       refine b4 π λn=>⟨hT n,(hπ n).2.1,λho=>?_⟩
       rw[(hπ n).2.2 ho,fT _ (hT n) ho]
theorem Dom.lift (hA:IsAttr G X p S A) (h:Dom G (Mn X A) (!p) D):Dom G X (!p) D:=by
 obtain⟨τ,b1,b2,b3,b4⟩:=h
 refine⟨τ,λv hv=>(b1 v hv).1,b2,λv u hv ho he hx=>b3 v u hv ho he ⟨hx,?_⟩,b4⟩
 have ho':G.own v=p:=by revert ho;cases G.own v <;> cases p <;> simp
 exact hA.mine v u (b1 v hv).1 (b1 v hv).2 ho' he hx
theorem Dom.top {d:Int}(hN:NoDead G X) (hd:∀v,X v->G.pri v<=d) (hp:oddP d=p) (hA:IsAttr G X p (λv=>G.pri v=d) A) (h:Dom G (Mn X A) p (Mn X A)):Dom G X p X:=by
 obtain⟨τ,b1,b2,b3,b4⟩:=h
 obtain⟨r,hr⟩:=hA.rank
 let f:Int->Int:=λv=>if h:∃u,G.E v u/\A u/\r u<r v then h.choose else if A v then(if h:∃u,G.E v u/\X u then h.choose else v) else τ v
 have fT:∀v,Mn X A v->G.own v=p->f v=τ v:=λv hv ho=>by
  have:¬∃u,G.E v u/\A u/\r u<r v:=λ⟨u,k1,k2,_⟩=>hA.mine v u hv.1 hv.2 ho k1 (hA.sub u k2) k2
  show(if h:_ then _ else _)=_
  rw[dif_neg this,if_neg hv.2]
 have fA:∀v,A v->¬G.pri v=d->G.own v=p->A (f v)/\r (f v)<r v:=λv hv hd ho=>by
  rcases hr v hv with h | ⟨_,h⟩ | ⟨h,_⟩
  · exact absurd h hd
  · have e:f v=h.choose:=dif_pos h
    rw[e];exact h.choose_spec.2
  · exact absurd ho h
 refine⟨f,λ_ h=>h,λv hv ho=>?_,λv u _ _ _ hx=>hx,λπ hπ=>?_⟩
 · by_cases ha:A v
   · by_cases h:∃u,G.E v u/\A u/\r u<r v
     · have e:f v=h.choose:=dif_pos h
       rw[e];exact⟨h.choose_spec.1,hA.sub _ h.choose_spec.2.1⟩
     · have h2:=hN v hv
       have e:f v=h2.choose:=by
        show(if h:_ then _ else _)=_
        rw[dif_neg h,if_pos ha,dif_pos h2]
       rw[e];exact h2.choose_spec
   · rw[fT v ⟨hv,ha⟩ ho]
     have:=b2 v ⟨hv,ha⟩ ho
     exact⟨this.1,this.2.1⟩
 · have hX:∀n,X (π n):=λn=>(hπ n).1
   by_cases hinf:∀N,∃n,N<=n/\G.pri (π n)=d
   · exact⟨d,hp,hinf,0,λn _=>hd _ (hX n)⟩
   · obtain⟨N,hN'⟩:=Classical.not_forall.1 hinf
     have hne:∀n,N<=n->¬G.pri (π n)=d:=λn hn h=>hN' ⟨n,hn,h⟩
     by_cases hA':∃n,N<=n/\A (π n)
     · obtain⟨n,hnN,hn⟩:=hA'
       have step:∀m,N<=m->A (π m)->A (π (m+1))/\r (π (m+1))<r (π m):=λm hm' hm=>by
        by_cases ho:G.own (π m)=p
        · rw[(hπ m).2.2 ho];exact fA _ hm (hne m hm') ho
        · rcases hr _ hm with h' | ⟨h',_⟩ | ⟨_,h'⟩
          · exact absurd h' (hne m hm')
          · exact absurd h' ho
          · exact h' _ (hπ m).2.1 (hX _)
       have st:∀k,A (π (k+n)):=λk=>by
        induction k with
        | zero=>rwa [Nat.zero_add]
        | succ k ih=>rw[show k+1+n=k+n+1 from by omega];exact(step _ (by omega) ih).1
       exact(descent (r:=λk=>r (π (k+n))) λk=>by
        have:=(step _ (by omega) (st k)).2
        rwa [show k+n+1=k+1+n from by omega]at this).elim
     · have hT:∀n,N<=n->Mn X A (π n):=λn hn=>⟨hX n,λh=>hA' ⟨n,hn,h⟩⟩
       refine Wins.tail N (b4 _ λk=>⟨hT _ (by omega),?_,λho=>?_⟩)
       · have:=(hπ (k+N)).2.1
         rwa [show k+N+1=k+1+N from by omega]at this
       · have:=(hπ (k+N)).2.2 ho
         rw[fT _ (hT _ (by omega)) ho,show k+N+1=k+1+N from by omega]at this
         exact this
theorem NoDead.less (h:NoDead G X) (hA:IsAttr G X p S A):NoDead G (Mn X A):=λv ⟨hx,ha⟩=>by
 by_cases ho:G.own v=p
 · obtain⟨u,k1,k2⟩:=h v hx
   exact⟨u,k1,k2,hA.mine v u hx ha ho k1 k2⟩
 · obtain⟨u,k1,k2,k3⟩:=hA.yours v hx ha ho
   exact⟨u,k1,k2,k3⟩
structure Sol (G:Gm) (X:Int->Prop) (p:Bool) (W:Int->Prop):Prop where
 sub:∀v,W v->X v
 mine:Dom G X p W
 yours:Dom G X (!p) (Mn X W)
theorem Sol.uniq {W W':Int->Prop}(h:Sol G X p W) (h':Sol G X p W') (v:Int):W v↔W' v:=by
 constructor
 · intro hv
   by_cases hv':W' v
   · exact hv'
   · exact(Dom.disj h.mine h'.yours hv ⟨h.sub v hv,hv'⟩).elim
 · intro hv
   by_cases hv':W v
   · exact hv'
   · exact(Dom.disj h'.mine h.yours hv ⟨h'.sub v hv,hv'⟩).elim
theorem Sol.flip {W:Int->Prop}(h:Sol G X p W):Sol G X (!p) (Mn X W):=by
 refine⟨λv hv=>hv.1,h.yours,?_⟩
 rw[Bool.not_not]
 refine h.mine.congr λv=>⟨λhv=>⟨h.sub v hv,λhm=>hm.2 hv⟩,λhv=>?_⟩
 by_cases hw:W v
 · exact hw
 · exact absurd ⟨hv.1,hw⟩ hv.2
theorem Sol.congr {W W':Int->Prop}(h:Sol G X p W) (e:∀v,W v↔W' v):Sol G X p W':=by
 have:W=W':=funext λv=>propext (e v)
 exact this ▸ h
end Go.Proofs.YtleekpaohfpooaaGreat.Par
set_option linter.unusedVariables false
set_option linter.unusedSimpArgs false
namespace Go.Proofs.YtleekpaohfpooaaGreat
open Go Go.Wk Go.Proofs
theorem cS {α:Type}{xs ys:List α}{i v:Int}{x:α}(h:setI xs i x=some ys):idx ys v=if v=i then some x else idx xs v:=by
 obtain⟨h0,h1,rfl,_⟩:=nV h
 unfold idx
 by_cases hv:0<=v
 · rw[if_pos hv,if_pos hv]
   by_cases e:v=i
   · subst e
     rw[if_pos rfl,List.getElem?_set_self (by omega)]
   · rw[if_neg e,List.getElem?_set_ne (by omega)]
 · rw[if_neg hv,if_neg hv,if_neg (by omega)]
theorem cF {α:Type}{xs:List α}{i:Int}(x:α) (h0:0<=i) (h1:i<xs.length):∃ys,setI xs i x=some ys/\ys.length=xs.length:=by
 have:setI xs i x=some (xs.set i.toNat x):=by unfold setI;rw[if_pos ⟨h0,h1⟩]
 exact⟨_,this,(nV this).2.2.2⟩
theorem cj {α:Type}{xs:List α}{i:Int}(h0:0<=i) (h1:i<xs.length):∃x,idx xs i=some x:=by
 obtain⟨x,h,_⟩:=iI h0 h1
 exact⟨x,h⟩
theorem cq {α:Type}{xs:List α}{i:Int}{x:α}(h:idx xs i=some x):0<=i/\i<xs.length:=⟨(ff h).1,(ff h).2.1⟩
def posL (v:Int):List Int->Nat
 | []=>0
 | x::xs=>if x=v then 0 else posL v xs+1
theorem so {v:Int}:∀{Q:List Int},v∈Q->Q[posL v Q]? =some v
 | x::xs,h=>by
  unfold posL
  by_cases e:x=v
  · rw[if_pos e,e];rfl
  · rw[if_neg e]
    rcases List.mem_cons.1 h with h | h
    · exact absurd h.symm e
    · simpa using so h
theorem uf {v:Int}:∀{Q:List Int}{m:Nat},Q[m]? =some v->posL v Q<=m
 | x::xs,0,h=>by
  unfold posL
  simp at h
  rw[if_pos h];omega
 | x::xs,m+1,h=>by
  unfold posL
  split
  · omega
  · have:=uf (Q:=xs) (m:=m) (by simpa using h)
    omega
theorem uL {u:Int}{Q:List Int}{k:Nat}(h:u∈Q.take k):posL u Q<k:=by
 obtain⟨m,hm⟩:=List.mem_iff_getElem?.1 h
 rw[List.getElem?_take]at hm
 split at hm
 · have:=uf hm;omega
 · cases hm
def In (B:List Bool) (v:Int):Prop:=idx B v=some true
section
variable (row:Int->List Int) (own:Int->Bool) (pri:Int->Int) (inn:Int->Prop) (p:Bool) (goal:Int->Prop)
def mkG:Par.Gm:=⟨own,pri,λv u=>u∈row v⟩
structure Cert (Q:List Int):Prop where
 nd:Q.Nodup
 mem:∀v∈Q,inn v
 why:∀(k:Nat) v,Q[k]? =some v->goal v\/(own v=p/\∃u∈Q.take k,u∈row v)\/(¬own v=p/\∀u∈row v,inn u->u∈Q.take k)
variable {row own pri inn p goal}
theorem Cert.snoc {Q:List Int}(h:Cert row own inn p goal Q){v:Int}(hv:v∉Q) (hi:inn v) (hw:goal v\/(own v=p/\∃u∈Q,u∈row v)\/(¬own v=p/\∀u∈row v,inn u->u∈Q)):Cert row own inn p goal (Q++[v]):=by
 refine⟨?_,?_,?_⟩
 · rw[List.nodup_append]
   exact⟨h.nd,by simp,λa ha b hb=>by simp at hb;subst hb;exact λe=>hv (e ▸ ha)⟩
 · intro x hx
   rcases yT.1 hx with hx | hx
   · exact h.mem x hx
   · simp at hx;subst hx;exact hi
 · intro k x hk
   by_cases hlt:k<Q.length
   · rw[List.getElem?_append_left hlt]at hk
     rw[List.take_append_of_le_length (by omega)]
     exact h.why k x hk
   · have:k=Q.length:=by
      have:=(hV.1 hk).1
      simp at this;omega
     subst this
     rw[List.getElem?_append_right (Nat.le_refl _),Nat.sub_self]at hk
     simp at hk
     subst hk
     rw[List.take_append_of_le_length (Nat.le_refl _),List.take_length]
     exact hw
def Trap (row:Int->List Int) (own:Int->Bool) (inn:Int->Prop) (p:Bool) (Q:List Int) (d:Int->Int->Prop):Prop:=∀v,inn v->v∉Q->(own v=p->∀y∈row v,inn y->¬d v y)/\(¬own v=p->∃y∈row v,inn y/\¬d v y)
theorem Cert.attr {Q:List Int}(h:Cert row own inn p goal Q) (hg:∀v,inn v->goal v->v∈Q) (ht:Trap row own inn p Q (λ_ y=>y∈Q)):Par.IsAttr (mkG row own pri) inn p goal (λv=>v∈Q):=by
 refine⟨h.mem,hg,⟨λv=>posL v Q,λv hv=>?_⟩,?_,?_⟩
 · have hlt:∀u,u∈Q.take (posL v Q)->u∈Q/\posL u Q<posL v Q:=λu hu=>⟨List.mem_of_mem_take hu,uL hu⟩
   rcases h.why _ v (so hv) with hw | ⟨ho,u,hu,hr⟩ | ⟨ho,hw⟩
   · exact .inl hw
   · exact .inr (.inl ⟨ho,u,hr,hlt u hu⟩)
   · exact .inr (.inr ⟨ho,λu hr hx=>hlt u (hw u hr hx)⟩)
 · intro v u hx hq ho he hxu
   exact(ht v hx hq).1 ho u he hxu
 · intro v hx hq ho
   obtain⟨y,h1,h2,h3⟩:=(ht v hx hq).2 ho
   exact⟨y,h1,h2,h3⟩
end
open Classical in
noncomputable def lf (row:List Int) (inn d:Int->Prop):Nat:=(row.filter (λy=>decide (inn y/\¬d y))).length
theorem rz {row:List Int}{inn d:Int->Prop}:lf row inn d=0↔∀y∈row,inn y->d y:=by
 classical
 unfold lf
 rw[List.length_eq_zero_iff,List.filter_eq_nil_iff]
 constructor
 · intro h y hy hi
   by_cases hd:d y
   · exact hd
   · exact absurd (by simp;exact⟨hi,hd⟩) (h y hy)
 · intro h y hy hc
   simp at hc
   exact hc.2 (h y hy hc.1)
theorem eP {row:List Int}{inn d d':Int->Prop}(h:∀y∈row,inn y->(d y↔d' y)):lf row inn d=lf row inn d':=by
 classical
 unfold lf
 congr 1
 apply List.filter_congr
 intro y hy
 by_cases hi:inn y
 · simp[hi,h y hy hi]
 · simp[hi]
theorem wl {row:List Int}{inn d:Int->Prop}:lf row inn d<=row.length:=by
 unfold lf;exact List.length_filter_le _ _
theorem rh {inn d:Int->Prop}{u:Int}:∀{row:List Int},row.Nodup->u∈row->inn u->¬d u->lf row inn (λy=>d y\/y=u)+1=lf row inn d
 | x::xs,hn,hu,hi,hd=>by
  classical
  have hn':=List.nodup_cons.1 hn
  by_cases e:x=u
  · subst e
    have:lf xs inn (λy=>d y\/y=x)=lf xs inn d:=eP λy hy _=>⟨λh=>h.resolve_right λe=>hn'.1 (e ▸ hy),.inl⟩
    unfold lf at this ⊢
    rw[List.filter_cons,if_neg (by simp),List.filter_cons,if_pos (by simp[hi,hd]),yO,this]
  · have hu':u∈xs:=(List.mem_cons.1 hu).resolve_left λh=>e h.symm
    have ih:=rh hn'.2 hu' hi hd
    unfold lf at ih ⊢
    rw[List.filter_cons,List.filter_cons]
    by_cases hc:inn x/\¬d x
    · rw[if_pos (by simp[hc,e]),if_pos (by simp[hc]),yO,yO,← ih]
    · rw[if_neg (by simp[e];exact λh=>Classical.byContradiction λh2=>hc ⟨h,h2⟩),if_neg (by simp;exact λh=>Classical.byContradiction λh2=>hc ⟨h,h2⟩),ih]
def dn (T:List Int) (u:Int) (L:List Int) (v y:Int):Prop:=y∈T\/(y=u/\v∈L)
structure Mid (row:Int->List Int) (own:Int->Bool) (inn:Int->Prop) (p:Bool) (goal:Int->Prop) (T:List Int) (u:Int) (L Q:List Int):Prop where
 cert:Cert row own inn p goal Q
 hu:∃R,Q=T++u::R
 trap:Trap row own inn p Q (dn T u L)
section
variable {row:Int->List Int}{own:Int->Bool}{inn:Int->Prop}{p:Bool}{goal:Int->Prop}{T:List Int}{u:Int}{L Q:List Int}
theorem Mid.u_in (h:Mid row own inn p goal T u L Q):u∈Q/\u∉T/\inn u:=by
 obtain⟨R,e⟩:=h.hu
 have hq:u∈Q:=by rw[e];simp
 refine⟨hq,?_,h.cert.mem u hq⟩
 have:=h.cert.nd
 rw[e,List.nodup_append]at this
 exact λht=>this.2.2 u ht u (by simp) rfl
theorem gh {v w y:Int}(h:w≠v):dn T u (L++[v]) w y↔dn T u L w y:=by
 unfold dn
 rw[yT,yM]
 constructor
 · rintro(h1 | ⟨h1,h2 | h2⟩)
   · exact .inl h1
   · exact .inr ⟨h1,h2⟩
   · exact absurd h2 h
 · rintro(h1 | ⟨h1,h2⟩)
   · exact .inl h1
   · exact .inr ⟨h1,.inl h2⟩
theorem rj {v y:Int}:dn T u (L++[v]) v y↔y∈T\/y=u:=by
 unfold dn;simp
theorem lc {v y:Int}(h:v∉L):dn T u L v y↔y∈T:=by
 unfold dn;simp[h]
theorem Mid.skip (h:Mid row own inn p goal T u L Q){v:Int}(hv:¬inn v\/v∈Q\/u∉row v):Mid row own inn p goal T u (L++[v]) Q:=by
 refine⟨h.cert,h.hu,λw hw hq=>?_⟩
 obtain⟨t1,t2⟩:=h.trap w hw hq
 by_cases e:w=v
 · subst e
   have hu:u∉row w:=by
    rcases hv with hv | hv | hv
    · exact absurd hw hv
    · exact absurd hv hq
    · exact hv
   have key:∀y∈row w,(dn T u (L++[w]) w y↔dn T u L w y):=λy hy=>by
    have hyu:y≠u:=λe=>hu (e ▸ hy)
    unfold dn;simp[hyu]
   refine⟨λho y hy hi=>λhd=>t1 ho y hy hi ((key y hy).1 hd),λho=>?_⟩
   obtain⟨y,h1,h2,h3⟩:=t2 ho
   exact⟨y,h1,h2,λhd=>h3 ((key y h1).1 hd)⟩
 · refine⟨λho y hy hi=>λhd=>t1 ho y hy hi ((gh e).1 hd),λho=>?_⟩
   obtain⟨y,h1,h2,h3⟩:=t2 ho
   exact⟨y,h1,h2,λhd=>h3 ((gh e).1 hd)⟩
theorem Mid.stay (h:Mid row own inn p goal T u L Q){v:Int}(ho:¬own v=p) (hl:lf (row v) inn (λy=>y∈T\/y=u)≠0):Mid row own inn p goal T u (L++[v]) Q:=by
 refine⟨h.cert,h.hu,λw hw hq=>?_⟩
 obtain⟨t1,t2⟩:=h.trap w hw hq
 by_cases e:w=v
 · subst e
   refine⟨λho'=>absurd ho' ho,λ_=>?_⟩
   apply Classical.byContradiction
   intro hc
   apply hl
   rw[rz]
   intro y hy hi
   apply Classical.byContradiction
   intro hd
   exact hc ⟨y,hy,hi,λh=>hd (rj.1 h)⟩
 · refine⟨λho y hy hi=>λhd=>t1 ho y hy hi ((gh e).1 hd),λho=>?_⟩
   obtain⟨y,h1,h2,h3⟩:=t2 ho
   exact⟨y,h1,h2,λhd=>h3 ((gh e).1 hd)⟩
theorem Mid.add (h:Mid row own inn p goal T u L Q){v:Int}(hi:inn v) (hq:v∉Q) (hu:u∈row v) (hw:own v=p\/lf (row v) inn (λy=>y∈T\/y=u)=0):Mid row own inn p goal T u (L++[v]) (Q++[v]):=by
 obtain⟨R,e⟩:=h.hu
 have hTQ:∀y,y∈T\/y=u->y∈Q:=λy hy=>by
  rw[e]
  rcases hy with hy | hy
  · simp[hy]
  · simp[hy]
 refine⟨h.cert.snoc hq hi ?_,⟨R++[v],by rw[e];simp⟩,λw hw' hq'=>?_⟩
 · by_cases ho:own v=p
   · exact .inr (.inl ⟨ho,u,h.u_in.1,hu⟩)
   · exact .inr (.inr ⟨ho,λy hy hyi=>hTQ y ((rz.1 (hw.resolve_left ho)) y hy hyi)⟩)
 · rw[yT,yM,not_or]at hq'
   obtain⟨t1,t2⟩:=h.trap w hw' hq'.1
   refine⟨λho y hy hi=>λhd=>t1 ho y hy hi ((gh hq'.2).1 hd),λho=>?_⟩
   obtain⟨y,h1,h2,h3⟩:=t2 ho
   exact⟨y,h1,h2,λhd=>h3 ((gh hq'.2).1 hd)⟩
theorem Mid.first {R:List Int}(hc:Cert row own inn p goal (T++u::R)) (ht:Trap row own inn p (T++u::R) (λ_ y=>y∈T)):Mid row own inn p goal T u [] (T++u::R):=by
 refine⟨hc,⟨R,rfl⟩,λv hv hq=>?_⟩
 obtain⟨t1,t2⟩:=ht v hv hq
 refine⟨λho y hy hi hd=>t1 ho y hy hi ((lc (by simp)).1 hd),λho=>?_⟩
 obtain⟨y,h1,h2,h3⟩:=t2 ho
 exact⟨y,h1,h2,λhd=>h3 ((lc (by simp)).1 hd)⟩
theorem Mid.last (h:Mid row own inn p goal T u L Q) (hL:∀v,inn v->u∈row v->v∈L):Trap row own inn p Q (λ_ y=>y∈T++[u]):=λv hv hq=>by
 obtain⟨t1,t2⟩:=h.trap v hv hq
 have key:∀y∈row v,(y∈T++[u]->dn T u L v y):=λy hy hm=>by
  rw[yT,yM]at hm
  rcases hm with hm | hm
  · exact .inl hm
  · exact .inr ⟨hm,hL v hv (hm ▸ hy)⟩
 refine⟨λho y hy hi hd=>t1 ho y hy hi (key y hy hd),λho=>?_⟩
 obtain⟨y,h1,h2,h3⟩:=t2 ho
 exact⟨y,h1,h2,λhd=>h3 (by
  rcases yT.1 hd with hm | hm
  · exact .inl hm
  · rw[yM]at hm
    exact .inr ⟨hm,hL v hv (hm ▸ h1)⟩)⟩
end
end Go.Proofs.YtleekpaohfpooaaGreat
set_option linter.unusedVariables false
set_option linter.unusedSimpArgs false
namespace Go.Proofs.YtleekpaohfpooaaGreat
open Go Go.Wk Go.Proofs
structure WfS (x:l7Game) (n:Nat):Prop where
 n256:n<=256
 lo:x.owner.length=n
 lp:x.prio.length=n
 ln:x.next.length=n
 lk:x.pick.length=n
 lv:x.prev.length=n
 ow:∀v o,idx x.owner v=some o->o=0\/o=1
 row:∀v r,idx x.next v=some r->r.length<=16/\r.Nodup/\∀u∈r,0<=u/\u<n
 prev:∀u P,idx x.prev u=some P->P.Nodup/\P.length<=100000/\∀v,v∈P↔∃r,idx x.next v=some r/\u∈r
def okE (k u:Int):Bool:=decide (k<0)||(k==u)
def rowS (x:l7Game) (v:Int):List Int:=match idx x.next v,idx x.pick v with
 | some r,some k=>r.filter (okE k)
 | _,_=>[]
def ownL (O:List Int) (v:Int):Bool:=match idx O v with
 | some o=>o==1
 | none=>false
def priL (P:List Int) (v:Int):Int:=(idx P v).getD 0
theorem o8 {x:l7Game}{v k:Int}{r:List Int}(hr:idx x.next v=some r) (hk:idx x.pick v=some k):rowS x v=r.filter (okE k):=by unfold rowS;rw[hr,hk]
theorem vv {x:l7Game}{v k:Int}(u:Int) (hk:idx x.pick v=some k):kH x v u=some (okE k u):=by
 unfold kH okE
 rw[hk,bE]
 cases decide (k<0) <;> simp
theorem uI {O:List Int}{v o:Int}{p:Bool}(h:idx O v=some o) (ho:o=0\/o=1):(o==b2i p)=decide (ownL O v=p):=by
 unfold ownL
 rw[h]
 rcases ho with rfl | rfl <;> cases p <;> decide
section
variable {x:l7Game}{n:Nat}(wf:WfS x n){B:List Bool}(hB:B.length=n)
include wf
theorem WfS.get {v:Int}(h0:0<=v) (h1:v<n):∃r k,idx x.next v=some r/\idx x.pick v=some k:=by
 have:=wf.ln
 have:=wf.lk
 obtain⟨r,hr⟩:=cj (xs:=x.next) h0 (by omega)
 obtain⟨k,hk⟩:=cj (xs:=x.pick) h0 (by omega)
 exact⟨r,k,hr,hk⟩
theorem rC (v:Int):(rowS x v).Nodup/\(rowS x v).length<=16/\∀u∈rowS x v,0<=u/\u<n:=by
 unfold rowS
 cases hr:idx x.next v with
 | none=>simp
 | some r=>
  cases hk:idx x.pick v with
  | none=>simp
  | some k=>
   obtain⟨h1,h2,h3⟩:=wf.row v r hr
   exact⟨h2.filter _,Nat.le_trans (List.length_filter_le _ _) h1,λu hu=>h3 u (List.mem_filter.1 hu).1⟩
include hB
omit wf in
theorem mq {v:Int}(h:In B v):0<=v/\v<n:=by
 have:=cq h
 rw[hB]at this
 exact this
theorem sH {v:Int}(h0:0<=v) (h1:v<n):gv x B v=some (lf (rowS x v) (In B) (λ_=>False):Int):=by
 classical
 obtain⟨r,k,hr,hk⟩:=wf.get h0 h1
 obtain⟨r1,r2,r3⟩:=wf.row v r hr
 let g:Int->Bool:=λu=>decide (In B u)&&okE k u
 unfold gv
 obtain⟨o,w1,w2⟩:=cB (f:=gg x B v) (λj (s:Int×Int)=>s=((((r.take j).filter g).length:Int),(j:Int))/\j<=r.length) (λ_=>False) (λs=>s.1=((r.filter g).length:Int)) r.length (λj s ⟨hs,hj⟩=>by
  subst hs
  unfold gg
  rw[hr,bE]
  dsimp only
  by_cases hlt:(j:Int)<(r.length:Int)
  · have hu:r[j]? =some r[j]:=gs (by omega)
    generalize r[j]=u at hu
    obtain⟨u0,u1⟩:=r3 u (yB hu)
    obtain⟨b,hb⟩:=cj (xs:=B) u0 (by omega)
    have hle:((r.take j).filter g).length<=j:=Nat.le_trans (List.length_filter_le _ _) (by rw[yP];omega)
    simp only[hlt,decide_true,cond_true,bE,bH,hu,hb,vv u hk,andE]
    have hg:(b&&okE k u)=g u:=by
     show _=(decide (In B u)&&okE k u)
     congr 1
     unfold In;rw[hb];cases b <;> simp
    rw[hg]
    have htk:(r.take (j+1)).filter g=(r.take j).filter g++(if g u then[u] else[]):=by
     rw[yU,hu,List.filter_append];congr 1
     cases h:g u <;> simp[h]
    rw[wr' (by omega) (by omega),wr' (by omega) (by omega)]
    cases h:g u with
    | true=>exact⟨_,rfl,by omega,by rw[htk,h];simp,by omega⟩
    | false=>exact⟨_,rfl,by omega,by rw[htk,h];simp,by omega⟩
  · simp only[hlt,decide_false,cond_false]
    refine⟨_,rfl,?_⟩
    dsimp only
    rw[List.take_of_length_le (by omega)]) (2 ^ 64) 0 (0,0) (by omega) ⟨by simp,by omega⟩ (by omega)
 match o,w2 with
 | .inr s,h2=>
  rw[w1,bE,bJ,h2,o8 hr hk]
  unfold lf
  rw[List.filter_filter]
  congr 3
  apply List.filter_congr
  intro u _
  show(decide (In B u)&&okE k u)=_
  simp
theorem tn {goal:Int->Prop}{p:Bool}{T L Q:List Int}{u v:Int}{out:List Bool}{left:List Int}(hm:Mid (rowS x) (ownL x.owner) (In B) p goal T u L Q) (hvL:v∉L)
 {P:List Int} {j:Nat} (hP:idx x.prev u=some P) (hj:P[j]? =some v) (hQ:Q.length<=100000)
 (ho:out.length=n/\∀v:Int,0<=v->v<n->idx out v=some (decide (v∈Q))) (hl:left.length=n/\∀v,In B v->v∉Q->idx left v=some (lf (rowS x v) (In B) (dn T u L v):Int)):
 ∃Q' out' left',dv x B (b2i p) u (Q,(j:Int),out,left)=some (.inr (.inr (Q',((j+1:Nat):Int),out',left')))/\Mid (rowS x) (ownL x.owner) (In B) p goal T u (L++[v]) Q' /\
  (out'.length=n/\∀v:Int,0<=v->v<n->idx out' v=some (decide (v∈Q')))/\(left'.length=n/\∀w,In B w->w∉Q'->idx left' w=some (lf (rowS x w) (In B) (dn T u (L++[v]) w):Int))/\(∀v∈Q,v∈Q'):=by
 have hn:=wf.n256
 obtain⟨p1,p2,p3⟩:=wf.prev u P hP
 obtain⟨r,hr,hur⟩:=(p3 v).1 (yB hj)
 obtain⟨v0,v1⟩:=cq hr
 rw[wf.ln]at v1
 obtain⟨k,hk⟩:=cj (xs:=x.pick) v0 (by rw[wf.lk];exact v1)
 obtain⟨b,hb⟩:=cj (xs:=B) v0 (by omega)
 obtain⟨w,hw⟩:=cj (xs:=x.owner) v0 (by rw[wf.lo];exact v1)
 have hjl:(j:Int)<(P.length:Int):=by have:=(hV.1 hj).1;omega
 have hwr:IntKind.i64.wrap ((j:Int)+1)=((j+1:Nat):Int):=by rw[wr' (by omega) (by omega)];omega
 unfold dv
 rw[hP,bE]
 dsimp only
 simp only[hjl,decide_true,cond_true,bE,bH,hj,hb,ho.2 v v0 v1,vv u hk,orE,hwr]
 have hedge:u∈rowS x v↔okE k u=true:=by rw[o8 hr hk,List.mem_filter];exact⟨λh=>h.2,λh=>⟨hur,h⟩⟩
 have hdn:∀w,w≠v->lf (rowS x w) (In B) (dn T u (L++[v]) w)=lf (rowS x w) (In B) (dn T u L w):=λw hw=>eP λy _ _=>gh hw
 by_cases hsk:((!b||decide (v∈Q)) || !okE k u)=true
 · rw[hsk,cond_true]
   have hcond:¬In B v\/v∈Q\/u∉rowS x v:=by
    simp only[Bool.or_eq_true,Bool.not_eq_true',decide_eq_true_eq]at hsk
    rcases hsk with (h | h) | h
    · left;unfold In;rw[hb,h];simp
    · exact .inr (.inl h)
    · right;right;rw[hedge,h];simp
   refine⟨Q,out,left,rfl,hm.skip hcond,ho,⟨hl.1,λy hy hq=>?_⟩,λ_ h=>h⟩
   rw[hl.2 y hy hq]
   by_cases e:y=v
   · subst e
     have hu:u∉rowS x y:=by
      rcases hcond with h | h | h
      · exact absurd hy h
      · exact absurd h hq
      · exact h
     congr 2
     exact eP λz hz _=>by
      have:z≠u:=λe=>hu (e ▸ hz)
      unfold dn;simp[this]
   · rw[hdn y e]
 · simp only[Bool.not_eq_true,Bool.or_eq_false_iff,Bool.not_eq_false',decide_eq_false_iff_not]at hsk
   obtain⟨⟨h1,h2⟩,h3⟩:=hsk
   subst h1
   have hi:In B v:=hb
   have hu:u∈rowS x v:=hedge.2 h3
   have hlv:=hl.2 v hi h2
   have hlf:lf (rowS x v) (In B) (λy=>y∈T\/y=u)+1=lf (rowS x v) (In B) (dn T u L v):=by
    rw[rh (rC wf v).1 hu hm.u_in.2.2 hm.u_in.2.1]
    exact eP λy _ _=>(lc hvL).symm
   have hlle:lf (rowS x v) (In B) (dn T u L v)<=16:=Nat.le_trans wl (rC wf v).2.1
   obtain⟨left',hs,hsl⟩:=cF (xs:=left) (i:=v) (lf (rowS x v) (In B) (λy=>y∈T\/y=u):Int) v0 (by omega)
   have hwrl:IntKind.i64.wrap ((lf (rowS x v) (In B) (dn T u L v):Int)-1)=(lf (rowS x v) (In B) (λy=>y∈T\/y=u):Int):=by rw[wr' (by omega) (by omega)];omega
   have hnew:idx left' v=some (lf (rowS x v) (In B) (λy=>y∈T\/y=u):Int):=by rw[cS hs,if_pos rfl]
   have hleft:∀w,In B w->w∉Q->idx left' w=some (lf (rowS x w) (In B) (dn T u (L++[v]) w):Int):=λw hw hq=>by
    rw[cS hs]
    by_cases e:w=v
    · subst e
      rw[if_pos rfl]
      congr 2
      exact eP λy _ _=>rj.symm
    · rw[if_neg e,hl.2 w hw hq,hdn w e]
   have hbeq:((lf (rowS x v) (In B) (λy=>y∈T\/y=u):Int)==0)=decide (lf (rowS x v) (In B) (λy=>y∈T\/y=u)=0):=by
    rw[yR];simp
   simp only[h2,h3,decide_false,yJ,Bool.or_false,cond_false,hlv,bE,hwrl,hs,hw,uI hw (wf.ow v w hw),hnew,hbeq,orE]
   by_cases hc:ownL x.owner v=p\/lf (rowS x v) (In B) (λy=>y∈T\/y=u)=0
   · have hc':(decide (ownL x.owner v=p)||decide (lf (rowS x v) (In B) (λy=>y∈T\/y=u)=0))=true:=by simpa using hc
     obtain⟨out',hso,hsol⟩:=cF (xs:=out) (i:=v) true v0 (by omega)
     simp only[hc',cond_true,hso,bE,app1 (show Q.length<=10000000000 by omega) (show Nat.ble 8 1024=true from rfl)]
     refine⟨_,_,_,rfl,hm.add hi h2 hu hc,⟨by omega,λy y0 y1=>?_⟩,⟨by omega,λw hw hq=>hleft w hw λh=>hq (List.mem_append_left _ h)⟩,λ_ h=>List.mem_append_left _ h⟩
     rw[cS hso]
     by_cases e:y=v
     · subst e;simp
     · rw[if_neg e,ho.2 y y0 y1];simp[e]
   · have hc':(decide (ownL x.owner v=p)||decide (lf (rowS x v) (In B) (λy=>y∈T\/y=u)=0))=false:=by simpa using hc
     rw[not_or]at hc
     simp only[hc',cond_false,bE]
     exact⟨_,_,_,rfl,hm.stay hc.1 hc.2,ho,⟨by omega,hleft⟩,λ_ h=>h⟩
end
end Go.Proofs.YtleekpaohfpooaaGreat
