/- Plain laws: two loops side by side, bits, Boolean chains. -/
import Derived.Test.YtpcjbkgbnoocaaaGreatLwEI
set_option linter.unusedVariables false
set_option linter.unusedSimpArgs false
open Option renaming bind → ds, bind_some → gs
open List renaming getElem?_eq_getElem → hV, getElem?_eq_some_iff → it, mem_of_getElem? → t0, length_append → vK, mem_singleton → vL, length_cons → vN, length_nil → vP, mem_append → vS, length_map → vV
open Bool renaming and_eq_true → vI, not_true → vJ, eq_iff_iff → vQ
open Int renaming toNat_natCast → vM
namespace Go.Proofs.YtpcjbkgbnoocaaaGreat
open Go Go.Wk Go.Proofs
theorem orE (b c:Bool):(bif b then some true else some c)=some (b||c):=by cases b <;> rfl
theorem andE (b c:Bool):(bif b then some c else some false)=some (b&&c):=by cases b <;> rfl
theorem od {ρ ρ' σ τ:Type}{f:Int->σ->Option (ρ⊕(σ⊕σ))}{g:Int->τ->Option (ρ'⊕(τ⊕τ))}(R:Nat->σ->τ->Prop) (O:ρ->ρ'->Prop) (B:σ->τ->Prop) (N:Nat)
 (step:∀(j:Nat) s t,j<N->R j s t->∃o p,f j s=some o/\g j t=some p/\(match o,p with
  | .inl r,.inl r'=>O r r'
  | .inr (.inl s'),.inr (.inl t')=>B s' t'
  | .inr (.inr s'),.inr (.inr t')=>R (j+1) s' t'
  | _,_=>False)):
 ∀(k j:Nat) (s:σ) (t:τ),j+k=N->R j s t->∃o p,cntM f k j s=some o/\cntM g k j t=some p/\(match o,p with
  | .inl r,.inl r'=>O r r'
  | .inr s',.inr t'=>R N s' t'\/B s' t'
  | _,_=>False)
 | 0,j,s,t,hj,h=>⟨.inr s,.inr t,rfl,rfl,.inl (by rw[← hj];exact h)⟩
 | k+1,j,s,t,hj,h=>by
  obtain⟨o,p,ho,hp,hm⟩:=step j s t (by omega) h
  show ∃o p,ds (f j s) _=some o/\ds (g j t) _=some p/\_
  rw[ho,hp]
  match o,p,hm with
  | .inl r,.inl r',hm=>exact⟨.inl r,.inl r',rfl,rfl,hm⟩
  | .inr (.inl s'),.inr (.inl t'),hm=>exact⟨.inr s',.inr t',rfl,rfl,.inr hm⟩
  | .inr (.inr s'),.inr (.inr t'),hm=>
   obtain⟨o',p',h1,h2,h3⟩:=od R O B N step k (j+1) s' t' (by omega) hm
   exact⟨o',p',h1,h2,h3⟩
theorem qa {ρ ρ' σ τ:Type}{f:Int->σ->Option (ρ⊕(σ⊕σ))}{g:Int->τ->Option (ρ'⊕(τ⊕τ))}(R:Nat->σ->τ->Prop) (N:Nat){s:σ}{t:τ}(h0:R 0 s t)
 (step:∀(j:Nat) s t,j<N->R j s t->∃s' t',f j s=some (.inr (.inr s'))/\g j t=some (.inr (.inr t'))/\R (j+1) s' t'):
 ∃s' t',cntM f N 0 s=some (.inr s')/\cntM g N 0 t=some (.inr t')/\R N s' t':=by
 obtain⟨o,p,h1,h2,h3⟩:=od (f:=f) (g:=g) R (λ_ _=>False) (λ_ _=>False) N (λj s t hj hr=>by
  obtain⟨s',t',h4,h5,h6⟩:=step j s t hj hr
  exact⟨_,_,h4,h5,h6⟩) N 0 s t (by omega) h0
 match o,p,h3 with
 | .inr s',.inr t',h3=>exact⟨s',t',h1,h2,h3.resolve_right id⟩
theorem kY {ρ α:Type}{f:Int->Unit->Option (ρ⊕(Unit⊕Unit))}{r:ρ}(g:Nat->α->Bool){xs:List α}{n:Nat}(hn:n=xs.length) (h:∀(i:Nat) x,xs[i]? =some x->f (i:Int) ()=some (if g i x then .inr (.inr ()) else .inl r)):
 cntM f n 0 ()=some (if xs.zipIdx.all (λp=>g p.2 p.1) then .inr () else .inl r):=by
 subst hn
 have:=cI (f:=f) (r:=r) (λp:α×Nat=>g p.2 p.1) (xs:=xs.zipIdx) (n:=xs.length) (by simp) (λi x hx=>by
  rw[List.getElem?_zipIdx]at hx
  cases hy:xs[i]? with
  | none=>rw[hy]at hx;cases hx
  | some y=>
   rw[hy]at hx
   simp at hx
   subst hx
   exact h i y hy)
 exact this
theorem cw {ρ σ:Type}{f:σ->Option (ρ⊕(σ⊕σ))}(I:Nat->σ->Prop) (R:ρ->Prop) (B:σ->Prop) (N:Nat)
 (step:∀(j:Nat) s,I j s->∃o,f s=some o/\(match o with
  | .inl r=>R r
  | .inr (.inl s')=>B s'
  | .inr (.inr s')=>j<N/\I (j+1) s')):
 ∀(k j:Nat) (s:σ),N<k+j->I j s->(0<k)->∃o,whileM f k s=some o/\(match o with
  | .inl r=>R r
  | .inr s'=>B s')
 | 0,_,_,_,_,h=>absurd h (Nat.lt_irrefl 0)
 | k+1,j,s,hk,h,_=>by
  obtain⟨o,ho,hm⟩:=step j s h
  show ∃o,ds (f s) _=some o/\_
  rw[ho]
  match o,hm with
  | .inl r,hm=>exact⟨.inl r,rfl,hm⟩
  | .inr (.inl s'),hm=>exact⟨.inr s',rfl,hm⟩
  | .inr (.inr s'),hm=>
   obtain⟨o',h1,h2⟩:=cw I R B N step k (j+1) s' (by omega) hm.2 (by omega)
   exact⟨o',h1,h2⟩
theorem lA {ρ ρ' σ τ:Type}{f:σ->Option (ρ⊕(σ⊕σ))}{g:τ->Option (ρ'⊕(τ⊕τ))}(R:σ->τ->Prop) (μ:σ->Nat) (O:ρ->ρ'->Prop) (B:σ->τ->Prop)
 (step:∀s t,R s t->∃o p,f s=some o/\g t=some p/\(match o,p with
  | .inl r,.inl r'=>O r r'
  | .inr (.inl s'),.inr (.inl t')=>B s' t'
  | .inr (.inr s'),.inr (.inr t')=>R s' t'/\μ s'<μ s
  | _,_=>False)):
 ∀(k k':Nat) (s:σ) (t:τ),μ s<k->μ s<k'->R s t->∃o p,whileM f k s=some o/\whileM g k' t=some p/\(match o,p with
  | .inl r,.inl r'=>O r r'
  | .inr s',.inr t'=>B s' t'
  | _,_=>False)
 | 0,_,_,_,h,_,_=>absurd h (Nat.not_lt_zero _)
 | _,0,_,_,_,h,_=>absurd h (Nat.not_lt_zero _)
 | k+1,k'+1,s,t,hk,hk',h=>by
  obtain⟨o,p,ho,hp,hm⟩:=step s t h
  show ∃o p,ds (f s) _=some o/\ds (g t) _=some p/\_
  rw[ho,hp]
  match o,p,hm with
  | .inl r,.inl r',hm=>exact⟨.inl r,.inl r',rfl,rfl,hm⟩
  | .inr (.inl s'),.inr (.inl t'),hm=>exact⟨.inr s',.inr t',rfl,rfl,hm⟩
  | .inr (.inr s'),.inr (.inr t'),hm=>
   obtain⟨o',p',h1,h2,h3⟩:=lA R μ O B step k k' s' t' (by omega) (by omega) hm.1
   exact⟨o',p',h1,h2,h3⟩
def b2i (b:Bool):Int:=if b then 1 else 0
theorem eN {z:Int}(h:0<=z):∃n:Nat,z=n:=⟨z.toNat,by omega⟩
theorem appL {α:Type}{b:Nat}{xs ys:List α}(h:xs.length+ys.length<=100000000000) (hb:Nat.ble b 1024=true):appS b xs ys=some (xs++ys):=by
 have hb:=Nat.ble_eq.mp hb
 have:(xs.length+ys.length) * b<=100000000000 * 1024:=Nat.mul_le_mul h hb
 unfold appS
 rw[if_pos (by omega)]
theorem app1 {α:Type}{b:Nat}{xs:List α}{x:α}(h:xs.length<=10000000000) (hb:Nat.ble b 1024=true):appS b xs [x]=some (xs++[x]):=appL (by simp only[vN,vP];omega) hb
theorem iE {α:Type}{xs:List α}{z:Int}(h0:0<=z) (h1:z<xs.length):∃x,idx xs z=some x/\x∈xs:=by
 have hz:z.toNat<xs.length:=by omega
 exact⟨xs[z.toNat],by rw[cG h0];simp[hz],by simp⟩
def RowIn (n:Int) (l:Int) (row:List Int):Prop:=(row.length:Int)=l/\∀x∈row,0<=x/\x<n
def tab (t:List (List Int)) (q i:Int):Int:=(t.getD q.toNat []).getD i.toNat 0
theorem rP {t:List (List Int)}{n l:Int}(h:∀row∈t,RowIn n l row){q i:Int}(q0:0<=q) (q1:q<t.length) (i0:0<=i) (i1:i<l):
 ∃row,idx t q=some row/\idx row i=some (tab t q i)/\0<=tab t q i/\tab t q i<n:=by
 obtain⟨row,h1,h2⟩:=iE (xs:=t) q0 q1
 obtain⟨h3,h4⟩:=h row h2
 obtain⟨x,h5,h6⟩:=iE (xs:=row) i0 (by omega)
 have e:tab t q i=x:=by
  unfold tab
  rw[cG q0]at h1
  rw[cG i0]at h5
  rw[List.getD_eq_getElem?_getD,List.getD_eq_getElem?_getD,h1,Option.getD_some,h5,Option.getD_some]
 rw[e]
 exact⟨row,h1,h5,h4 x h6⟩
theorem sU {ρ σ α:Type}{f:Int->σ->Option (ρ⊕(σ⊕σ))}(g:σ->α->σ) (I:Nat->σ->Prop){xs:List α}
 (h:∀(i:Nat) x s,xs[i]? =some x->I i s->f (i:Int) s=some (.inr (.inr (g s x)))/\I (i+1) (g s x)) {s:σ} (h0:I 0 s):
 cntM f xs.length 0 s=some (.inr (xs.foldl g s))/\I xs.length (xs.foldl g s):=by
 obtain⟨s',h1,h2,h3⟩:=ca (f:=f) (λj t=>t=(xs.take j).foldl g s/\I j t) xs.length (s:=s) ⟨by simp,h0⟩ λj t hj ⟨ht,hI⟩=>by
  have hx:xs[j]? =some xs[j]:=by simp[hj]
  obtain⟨h1,h2⟩:=h j _ t hx hI
  refine⟨_,h1,?_,h2⟩
  rw[List.take_add_one,hx,List.foldl_append,← ht]
  rfl
 rw[h1,h2,List.take_length]
 rw[h2,List.take_length]at h3
 exact⟨rfl,h3⟩
theorem qf {ρ:Type}{f:Int->List Int->Option (ρ⊕(List Int⊕List Int))}(g:Int->Int){xs:List Int}(h:∀(i:Nat) x s,xs[i]? =some x->s.length=i->f (i:Int) s=some (.inr (.inr (s++[g x])))):cntM f xs.length 0 []=some (.inr (xs.map g)):=by
 have h1:=(sU (f:=f) (λs x=>s++[g x]) (λj s=>s.length=j) (xs:=xs) (λi x s hx hs=>⟨h i x s hx hs,by simp[hs]⟩) (s:=[]) rfl).1
 rw[h1]
 have:∀(xs:List Int) (a:List Int),xs.foldl (λs x=>s++[g x]) a=a++xs.map g:=λxs=>by
  induction xs with
  | nil=>intro a;simp
  | cons x xs ih=>intro a;rw[List.foldl_cons,ih];simp
 rw[this];rfl
end Go.Proofs.YtpcjbkgbnoocaaaGreat
set_option linter.unusedVariables false
set_option linter.unusedSimpArgs false
namespace Go.Proofs.YtpcjbkgbnoocaaaGreat
open Go Go.Wk Go.Proofs
def inR (n x:Int):Bool:=decide (0<=x)&&decide (x<n)
theorem gk {n x:Int}:inR n x=true↔0<=x/\x<n:=by unfold inR;simp
theorem sy (n x:Int):(decide (0<=x)&&decide (x<=n-1))=inR n x:=by
 unfold inR
 congr 1
 exact decide_eq_decide.2 (by omega)
theorem pJ (n x:Int):(decide (x<0)||decide (n<=x))= !(inR n x):=by
 unfold inR
 by_cases h1:x<0 <;> by_cases h2:n<=x <;> simp[h1,h2] <;> omega
theorem in2 (o:Int):(decide (0<=o)&&decide (o<=1))=inR 2 o:=by
 unfold inR;congr 1;exact decide_eq_decide.2 (by omega)
theorem in41 (o:Int):(decide (0<=o)&&decide (o<=40))=inR 41 o:=by
 unfold inR;congr 1;exact decide_eq_decide.2 (by omega)
theorem ov (a b:Int):decide (a<b)= !decide (b<=a):=by rw[← decide_not];exact decide_eq_decide.2 (by omega)
theorem cV (a b c:Int):eo a b c=some (decide (b<=a)&&decide (a<=c)):=by
 unfold eo
 by_cases h:b<=a <;> simp[h]
theorem eH:∀(n:Nat) (xs:List Int),xs.Nodup->(∀x∈xs,0<=x/\x<n)->xs.length<=n
 | 0,[],_,_=>by simp
 | 0,x::xs,_,h=>by have:=h x (List.mem_cons_self ..);omega
 | n+1,xs,hn,h=>by
  by_cases hm:(n:Int)∈xs
  · have h1:=List.length_erase_of_mem hm
    have h2:=eH n (xs.erase (n:Int)) (hn.erase _) (λx hx=>by
     rw[hn.mem_erase_iff]at hx
     have:=h x hx.2
     have:=hx.1
     omega)
    omega
  · have:=eH n xs hn (λx hx=>by
     have h3:=h x hx
     have:x≠n:=λe=>hm (e ▸ hx)
     omega)
    omega
end Go.Proofs.YtpcjbkgbnoocaaaGreat
set_option linter.unusedVariables false
set_option linter.unusedSimpArgs false
namespace Go.Proofs.YtpcjbkgbnoocaaaGreat
open Go Go.Wk Go.Proofs
def stepUp (n:Int) (xs:List Int) (i:Nat) (x:Int):Bool:=inR n x&&(!decide (0<i)||(match xs[i-1]? with | some y=>decide (y<x) | none=>false))
def setOk (n:Int) (xs:List Int):Bool:=xs.zipIdx.all (λp=>stepUp n xs p.2 p.1)
theorem kE {n:Int}{xs:List Int}(h:setOk n xs=true):(∀(i:Nat) x,xs[i]? =some x->0<=x/\x<n)/\∀(i:Nat) x y,xs[i]? =some x->xs[i+1]? =some y->x<y:=by
 unfold setOk at h
 rw[List.all_eq_true]at h
 refine⟨λi x hx=>?_,λi x y hx hy=>?_⟩
 · have:=h (x,i) (List.mem_zipIdx_iff_getElem?.2 hx)
   unfold stepUp at this
   rw[vI]at this
   exact gk.1 this.1
 · have:=h (y,i+1) (List.mem_zipIdx_iff_getElem?.2 hy)
   unfold stepUp at this
   simp only[Nat.add_sub_cancel,hx]at this
   have h2:=((vI _ _).mp this).2
   simp at h2
   exact h2
theorem rG {n:Int}{xs:List Int}(h:setOk n xs=true):∀(i:Nat) x,xs[i]? =some x->(i:Int)<=x
 | 0,x,hx=>by have:=((kE h).1 0 x hx).1;omega
 | i+1,x,hx=>by
  have hi:i<xs.length:=by have:=(it.1 hx).1;omega
  have hy:xs[i]? =some xs[i]:=by simp[hi]
  have:=rG h i _ hy
  have:=(kE h).2 i _ _ hy hx
  omega
theorem sZ {n:Int}{xs:List Int}(h:setOk n xs=true) (h0:0<=n):(xs.length:Int)<=n:=by
 by_cases he:xs.length=0
 · omega
 · have hx:xs[xs.length-1]? =some (xs[xs.length-1]'(by omega)):=hV (by omega)
   have:=rG h _ _ hx
   have:=((kE h).1 _ _ hx).2
   omega
theorem rv {xs:List Int}{i:Nat}(hi:i<xs.length) (h:0<i):∃y,idx xs (IntKind.i64.wrap ((i:Int)-1))=some y/\xs[i-1]? =some y\/1000000000<=i:=by
 by_cases hb:1000000000<=i
 · exact⟨0,.inr hb⟩
 · refine⟨xs[i-1]'(by omega),.inl ⟨?_,hV (by omega)⟩⟩
   rw[wr' (by omega) (by omega),show((i:Int)-1)=((i-1:Nat):Int) from by omega,bG]
   exact hV (by omega)
theorem qv {xs:List Int}{n:Int}(h0:0<=n) (h1:n<=1000000000) (hl:xs.length<=1000000000):j6 xs n=some (setOk n xs):=by
 unfold j6
 rw[kY (f:=gl xs n) (r:=false) (stepUp n xs) (xs:=xs) rfl (λi x hx=>by
  have hi:=(it.1 hx).1
  unfold gl stepUp
  rw[bG,hx]
  simp only[gs,wr' (z:=n-1) (by omega) (by omega),cV,sy]
  cases inR n x with
  | false=>rfl
  | true=>
   by_cases hi0:0<i
   · obtain⟨y,⟨e1,e2⟩ | e⟩:=rv hi hi0
     · have e3:decide (x<=y)= !decide (y<x):=by rw[← decide_not];exact decide_eq_decide.2 (by omega)
       simp only[e1,e2,show(0:Int)<(i:Int) from by omega,hi0,decide_true,vJ,cond_false,cond_true,gs,e3,Bool.true_and,Bool.false_or]
       cases decide (y<x) <;> rfl
     · omega
   · have:¬(0:Int)<(i:Int):=by omega
     simp[hi0,this])]
 unfold setOk
 cases List.all xs.zipIdx (λp=>stepUp n xs p.2 p.1) <;> rfl
theorem iX {xs:List Int}{n:Int}(h0:0<=n) (h1:n<=1000000000) (hl:xs.length<=1000000000):jM xs n=some (setOk n xs):=by
 unfold jM
 rw[qv h0 h1 hl]
 by_cases h:(xs.length:Int)<=n
 · simp[h]
 · have:setOk n xs=false:=by
    cases hs:setOk n xs with
    | false=>rfl
    | true=>exact absurd (sZ hs h0) h
   simp[h,this]
theorem i8 {xs:List Int}{n:Int}(hl:xs.length<=1000000000):iJ xs n=some (setOk n xs):=by
 unfold iJ
 rw[kY (f:=jm xs n) (r:=false) (stepUp n xs) (xs:=xs) rfl (λi x hx=>by
  have hi:=(it.1 hx).1
  unfold jm stepUp
  rw[bG,hx]
  simp only[gs,orE,pJ]
  cases inR n x with
  | false=>rfl
  | true=>
   by_cases hi0:0<i
   · obtain⟨y,⟨e1,e2⟩ | e⟩:=rv hi hi0
     · have e3:decide (x<=y)= !decide (y<x):=by rw[← decide_not];exact decide_eq_decide.2 (by omega)
       simp only[e1,e2,show(0:Int)<(i:Int) from by omega,hi0,decide_true,vJ,cond_false,cond_true,gs,e3,Bool.true_and,Bool.false_or]
       cases decide (y<x) <;> rfl
     · omega
   · have:¬(0:Int)<(i:Int):=by omega
     simp[hi0,this])]
 unfold setOk
 cases List.all xs.zipIdx (λp=>stepUp n xs p.2 p.1) <;> rfl
end Go.Proofs.YtpcjbkgbnoocaaaGreat
set_option linter.unusedVariables false
set_option linter.unusedSimpArgs false
namespace Go.Proofs.YtpcjbkgbnoocaaaGreat
open Go Go.Wk Go.Proofs
abbrev Asc (xs:List Int):Prop:=xs.Pairwise (· < ·)
theorem qe:∀{xs ys:List Int},Asc xs->Asc ys->(∀z,z∈xs↔z∈ys)->xs=ys
 | [],[],_,_,_=>rfl
 | [],y::ys,_,_,h=>by have:=(h y).2 (List.mem_cons_self ..);cases this
 | x::xs,[],_,_,h=>by have:=(h x).1 (List.mem_cons_self ..);cases this
 | x::xs,y::ys,hx,hy,h=>by
  have hx':=List.pairwise_cons.1 hx
  have hy':=List.pairwise_cons.1 hy
  have e:x=y:=by
   have h1:=(h x).1 (List.mem_cons_self ..)
   have h2:=(h y).2 (List.mem_cons_self ..)
   rcases List.mem_cons.1 h1 with h1 | h1
   · exact h1
   · rcases List.mem_cons.1 h2 with h2 | h2
     · exact h2.symm
     · have:=hx'.1 y h2
       have:=hy'.1 x h1
       omega
  subst e
  congr 1
  refine qe hx'.2 hy'.2 λz=>?_
  have hz:=h z
  rw[List.mem_cons,List.mem_cons]at hz
  constructor
  · intro hm
    have:=hx'.1 z hm
    rcases hz.1 (.inr hm) with e | hm'
    · omega
    · exact hm'
  · intro hm
    have:=hy'.1 z hm
    rcases hz.2 (.inr hm) with e | hm'
    · omega
    · exact hm'
theorem tU:∀{xs:List Int},(∀(i:Nat) x y,xs[i]? =some x->xs[i+1]? =some y->x<y)->Asc xs
 | [],_=>List.Pairwise.nil
 | [x],_=>by simp
 | x::y::r,h=>by
  have ih:=tU (xs:=y::r) (λi a b ha hb=>h (i+1) a b ha hb)
  have hxy:=h 0 x y rfl rfl
  refine List.pairwise_cons.2 ⟨λz hz=>?_,ih⟩
  rcases List.mem_cons.1 hz with rfl | hz
  · exact hxy
  · have:=(List.pairwise_cons.1 ih).1 z hz
    omega
theorem eh {n:Int}{xs:List Int}:setOk n xs=true↔(∀x∈xs,0<=x/\x<n)/\Asc xs:=by
 constructor
 · intro h
   obtain⟨h1,h2⟩:=kE h
   refine⟨λx hx=>?_,tU h2⟩
   obtain⟨i,hi⟩:=List.mem_iff_getElem?.1 hx
   exact h1 i x hi
 · rintro⟨h1,h2⟩
   unfold setOk
   rw[List.all_eq_true]
   rintro⟨x,i⟩ hx
   have hx:=List.mem_zipIdx_iff_getElem?.1 hx
   dsimp only at hx ⊢
   unfold stepUp
   rw[vI]
   refine⟨gk.2 (h1 x (t0 hx)),?_⟩
   by_cases hi:0<i
   · have hlt:=(it.1 hx).1
     have hy:xs[i-1]? =some (xs[i-1]'(by omega)):=hV (by omega)
     have:=List.pairwise_iff_getElem.1 h2 (i-1) i (by omega) hlt (by omega)
     rw[(it.1 hx).2]at this
     rw[hy]
     simp[this]
   · simp[hi]
theorem qz {xs:List Int}(h:Asc xs){i j:Nat}{x y:Int}(hi:xs[i]? =some x) (hj:xs[j]? =some y) (hij:i<j):x<y:=by
 obtain⟨h1,e1⟩:=it.1 hi
 obtain⟨h2,e2⟩:=it.1 hj
 rw[← e1,← e2]
 exact List.pairwise_iff_getElem.1 h i j h1 h2 hij
theorem gV {xs:List Int}(h:Asc xs):xs.Nodup:=List.Pairwise.imp (λh e=>by omega) h
theorem tR {xs:List Int}(h:xs.Nodup):Asc (xs.mergeSort λx y=>decide (x<=y)):=by
 have h1:(xs.mergeSort λx y=>decide (x<=y)).Pairwise (λa b=>decide (a<=b)=true):=List.pairwise_mergeSort (λa b c h1 h2=>by simp only[decide_eq_true_eq]at *;omega) (λa b=>by simp only[Bool.or_eq_true,decide_eq_true_eq];omega) xs
 have h2:(xs.mergeSort λx y=>decide (x<=y)).Nodup:=(List.mergeSort_perm xs _).nodup_iff.2 h
 have h3:=List.Pairwise.and h1 h2
 exact h3.imp λ⟨ha,hb⟩=>by
  simp only[decide_eq_true_eq]at ha
  have:∀{a b:Int},a<=b->a≠b->a<b:=λh1 h2=>by omega
  exact this ha hb
def ins (n:Int) (xs:List Int):List Int:=xs.filter (λx=>decide (x<n))++n::xs.filter (λx=>decide (n<x))
theorem nV {n:Int}{xs:List Int}(hn:n∉xs) (z:Int):z∈ins n xs↔z=n\/z∈xs:=by
 unfold ins
 simp only[vS,List.mem_cons,List.mem_filter,decide_eq_true_eq]
 constructor
 · rintro(⟨h,_⟩ | rfl | ⟨h,_⟩)
   · exact .inr h
   · exact .inl rfl
   · exact .inr h
 · rintro(rfl | h)
   · exact .inr (.inl rfl)
   · rcases Int.lt_trichotomy z n with hlt | heq | hgt
     · exact .inl ⟨h,hlt⟩
     · exact absurd (heq ▸ h) hn
     · exact .inr (.inr ⟨h,hgt⟩)
theorem nW {n:Int}{xs:List Int}(h:Asc xs):Asc (ins n xs):=by
 unfold ins
 refine List.pairwise_append.2 ⟨h.filter _,List.pairwise_cons.2 ⟨λz hz=>?_,h.filter _⟩,λa ha b hb=>?_⟩
 · simp only[List.mem_filter,decide_eq_true_eq]at hz;exact hz.2
 · simp only[List.mem_filter,decide_eq_true_eq]at ha
   rcases List.mem_cons.1 hb with rfl | hb
   · exact ha.2
   · simp only[List.mem_filter,decide_eq_true_eq]at hb;omega
theorem rL {n:Int}{xs:List Int}(hn:n∉xs) (h:Asc xs):(ins n xs).length=xs.length+1:=by
 have h1:(n::xs).Nodup:=List.nodup_cons.2 ⟨hn,gV h⟩
 have h2:(ins n xs).Perm (n::xs):=(List.perm_ext_iff_of_nodup (gV (nW h)) h1).2 λz=>by rw[nV hn,List.mem_cons]
 rw[h2.length_eq,vN]
theorem ss {n:Int}{xs:List Int}(h:Asc xs) (hn:n∉xs){k:Nat}(hk:k<=xs.length) (h1:∀(i:Nat) x,i<k->xs[i]? =some x->x<n) (h2:∀x,xs[k]? =some x->n<x):xs.take k++n::xs.drop k=ins n xs:=by
 refine qe ?_ (nW h) λz=>?_
 · have hT:∀z∈xs.take k,z<n:=λz hz=>by
    obtain⟨i,hi⟩:=List.mem_iff_getElem?.1 hz
    rw[List.getElem?_take]at hi
    split at hi
    · rename_i hik;exact h1 i z hik hi
    · cases hi
   have hD:∀z∈xs.drop k,n<z:=λz hz=>by
    obtain⟨i,hi⟩:=List.mem_iff_getElem?.1 hz
    rw[List.getElem?_drop]at hi
    have hlt:=(it.1 hi).1
    have hx:xs[k]? =some (xs[k]'(by omega)):=hV (by omega)
    have:=h2 _ hx
    rcases Nat.eq_zero_or_pos i with e | e
    · subst e
      rw[Nat.add_zero,hx]at hi
      cases hi;exact this
    · have:=qz h hx hi (by omega)
      omega
   refine List.pairwise_append.2 ⟨h.sublist (List.take_sublist ..),List.pairwise_cons.2 ⟨hD,h.sublist (List.drop_sublist ..)⟩,λa ha b hb=>?_⟩
   have:=hT a ha
   rcases List.mem_cons.1 hb with rfl | hb
   · exact this
   · have:=hD b hb;omega
 · rw[nV hn,vS,List.mem_cons]
   have:z∈xs↔z∈xs.take k\/z∈xs.drop k:=by rw[← vS,List.take_append_drop]
   rw[this]
   constructor
   · rintro(h | h | h)
     · exact .inr (.inl h)
     · exact .inl h
     · exact .inr (.inr h)
   · rintro(h | h | h)
     · exact .inr (.inl h)
     · exact .inl h
     · exact .inr (.inr h)
end Go.Proofs.YtpcjbkgbnoocaaaGreat
set_option linter.unusedVariables false
set_option linter.unusedSimpArgs false
namespace Go.Proofs.YtpcjbkgbnoocaaaGreat
open Go Go.Wk Go.Proofs
def vertOk (a:Arena) (i:Nat) (row:List Int):Bool:=(match a.Owner[i]? with | some o=>inR 2 o | none=>false)&&decide ((1:Int)<=row.length)&&decide ((row.length:Int)<=16)&&setOk (a.Owner.length:Int) row
def arenaOk (a:Arena):Bool:=decide (1<=(a.Owner.length:Int))&&decide ((a.Owner.length:Int)<=256)&&((a.Next.length:Int)==(a.Owner.length:Int))&&a.Next.zipIdx.all (λp=>vertOk a p.2 p.1)
def parityOk (g:Parity):Bool:=arenaOk g.Arena&&((g.Prio.length:Int)==(g.Arena.Owner.length:Int))&&g.Prio.all (inR 41)
theorem ku (a:Arena):iQ a=some (arenaOk a):=by
 unfold iQ arenaOk
 rw[cV,gs]
 cases h1:(decide (1<=(a.Owner.length:Int))&&decide ((a.Owner.length:Int)<=256)) with
 | false=>rfl
 | true=>
  simp only[vI,decide_eq_true_eq]at h1
  simp only[vJ,cond_false,gs,Bool.true_and,bne]
  cases h2:((a.Next.length:Int)==(a.Owner.length:Int)) with
  | false=>rfl
  | true=>
   have hl:a.Owner.length=a.Next.length:=by have:=beq_iff_eq.1 h2;omega
   rw[kY (f:=gv a) (r:=false) (vertOk a) (xs:=a.Next) hl (λi row hx=>by
    have hi:=(it.1 hx).1
    obtain⟨o,ho⟩:∃o,a.Owner[i]? =some o:=⟨_,hV (by omega)⟩
    have hv:vertOk a i row=(inR 2 o&&decide ((1:Int)<=row.length)&&decide ((row.length:Int)<=16)&&setOk (a.Owner.length:Int) row):=by unfold vertOk;rw[ho]
    rw[hv]
    unfold gv
    rw[bG,bG,ho,hx]
    simp only[gs,cV,in2]
    cases inR 2 o with
    | false=>rfl
    | true=>
     simp only[vJ,cond_false,gs,ov,Bool.true_and]
     cases h3:decide ((1:Int)<=row.length) with
     | false=>rfl
     | true=>
      simp only[vJ,cond_false,gs,Bool.true_and]
      cases h4:decide ((row.length:Int)<=16) with
      | false=>rfl
      | true=>
       have h4:=of_decide_eq_true h4
       rw[iX (by omega) (by omega) (by omega)]
       simp only[vJ,cond_false,gs,Bool.true_and]
       cases setOk (a.Owner.length:Int) row <;> rfl)]
   simp only[vJ,cond_false,gs,Bool.true_and]
   cases List.all a.Next.zipIdx (λp=>vertOk a p.2 p.1) <;> rfl
theorem mO (a:Arena):gK a=some (arenaOk a):=by
 unfold gK arenaOk
 simp only[orE,gs,ov,bne]
 rw[show(!decide (1<=(a.Owner.length:Int)) || !decide ((a.Owner.length:Int)<=256) || !((a.Next.length:Int)==(a.Owner.length:Int)))= !(decide (1<=(a.Owner.length:Int))&&decide ((a.Owner.length:Int)<=256)&&((a.Next.length:Int)==(a.Owner.length:Int))) from by simp only[Bool.not_and]]
 cases h1:(decide (1<=(a.Owner.length:Int))&&decide ((a.Owner.length:Int)<=256)&&((a.Next.length:Int)==(a.Owner.length:Int))) with
 | false=>rfl
 | true=>
  simp only[vI,decide_eq_true_eq,beq_iff_eq]at h1
  simp only[vJ,cond_false,gs,Bool.true_and]
  rw[kY (f:=gu a) (r:=false) (vertOk a) (xs:=a.Next) rfl (λi row hx=>by
   have hi:=(it.1 hx).1
   obtain⟨o,ho⟩:∃o,a.Owner[i]? =some o:=⟨_,hV (by omega)⟩
   have hv:vertOk a i row=(inR 2 o&&decide ((1:Int)<=row.length)&&decide ((row.length:Int)<=16)&&setOk (a.Owner.length:Int) row):=by unfold vertOk;rw[ho]
   rw[hv]
   unfold gu
   rw[bG,bG,ho,hx]
   simp only[gs]
   have hx2:(decide (o<0)||decide (1<o))= !(inR 2 o):=by
    rw[← pJ];congr 1
   rw[orE,gs,hx2]
   cases inR 2 o with
   | false=>rfl
   | true=>
    simp only[vJ,cond_false,gs,ov,Bool.true_and]
    cases h3:decide ((1:Int)<=row.length) with
    | false=>rfl
    | true=>
     simp only[vJ,cond_false,gs,Bool.true_and]
     cases h4:decide ((row.length:Int)<=16) with
     | false=>rfl
     | true=>
      have h4:=of_decide_eq_true h4
      rw[i8 (by omega)]
      simp only[vJ,cond_false,gs,Bool.true_and]
      cases setOk (a.Owner.length:Int) row <;> rfl)]
  simp only[vJ,cond_false,gs,Bool.true_and]
  cases List.all a.Next.zipIdx (λp=>vertOk a p.2 p.1) <;> rfl
theorem jU (g:Parity):fH g=some (parityOk g):=by
 unfold fH parityOk
 rw[ku,gs,orE,gs,bne,← Bool.not_and]
 cases h1:(arenaOk g.Arena&&((g.Prio.length:Int)==(g.Arena.Owner.length:Int))) with
 | false=>rfl
 | true=>
  simp only[vJ,cond_false]
  rw[cI (f:=fu g) (r:=false) (inR 41) (xs:=g.Prio) rfl (λi y hy=>by
   unfold fu
   rw[bG,hy,gs,cV,gs,in41]
   cases inR 41 y <;> rfl)]
  cases g.Prio.all (inR 41) <;> rfl
theorem po (g:Parity):js g=some (parityOk g):=by
 unfold js parityOk
 rw[mO,gs,orE,gs,bne,← Bool.not_and]
 cases h1:(arenaOk g.Arena&&((g.Prio.length:Int)==(g.Arena.Owner.length:Int))) with
 | false=>rfl
 | true=>
  simp only[vJ,cond_false]
  rw[cI (f:=fd g) (r:=false) (inR 41) (xs:=g.Prio) rfl (λi y hy=>by
   unfold fd
   rw[bG,hy,gs,orE,gs]
   have hx2:(decide (y<0)||decide (40<y))= !(inR 41 y):=by
    rw[← pJ];congr 1
   rw[hx2]
   cases inR 41 y <;> rfl)]
  cases g.Prio.all (inR 41) <;> rfl
theorem cU {g:Parity}(h:parityOk g=true):1<=g.Arena.Owner.length/\g.Arena.Owner.length<=256/\g.Arena.Next.length=g.Arena.Owner.length/\g.Prio.length=g.Arena.Owner.length /\
 (∀(i:Nat) row,g.Arena.Next[i]? =some row->1<=row.length/\row.length<=16/\setOk (g.Arena.Owner.length:Int) row=true):=by
 simp only[parityOk,arenaOk,vI,decide_eq_true_eq,beq_iff_eq]at h
 obtain⟨⟨⟨⟨⟨h1,h2⟩,h3⟩,h4⟩,h5⟩,h6⟩:=h
 refine⟨by omega,by omega,by omega,by omega,λi row hr=>?_⟩
 rw[List.all_eq_true]at h4
 have:=h4 (row,i) (List.mem_zipIdx_iff_getElem?.2 hr)
 simp only[vertOk,vI,decide_eq_true_eq]at this
 exact⟨by omega,by omega,this.2⟩
end Go.Proofs.YtpcjbkgbnoocaaaGreat
set_option linter.unusedVariables false
set_option linter.unusedSimpArgs false
namespace Go.Proofs.YtpcjbkgbnoocaaaGreat
open Go Go.Wk Go.Proofs
theorem n7 {g:Parity}(h:parityOk g=true):(∀o∈g.Arena.Owner,inR 2 o=true)/\(∀x∈g.Prio,inR 41 x=true):=by
 have h':=cU h
 simp only[parityOk,arenaOk,vI,decide_eq_true_eq,beq_iff_eq]at h
 obtain⟨⟨⟨⟨⟨h1,h2⟩,h3⟩,h4⟩,h5⟩,h6⟩:=h
 rw[List.all_eq_true]at h4 h6
 refine⟨λo ho=>?_,h6⟩
 obtain⟨i,hi⟩:=List.mem_iff_getElem?.1 ho
 have hlt:=(it.1 hi).1
 have hr:g.Arena.Next[i]? =some (g.Arena.Next[i]'(by omega)):=hV (by omega)
 have:=h4 (_,i) (List.mem_zipIdx_iff_getElem?.2 hr)
 simp only[vertOk,hi,vI]at this
 exact this.1.1.1
theorem tc {g:Parity}(h1:1<=g.Arena.Owner.length) (h2:g.Arena.Owner.length<=256) (h3:g.Arena.Next.length=g.Arena.Owner.length) (h4:g.Prio.length=g.Arena.Owner.length) (h5:∀row∈g.Arena.Next,1<=row.length/\row.length<=16/\setOk (g.Arena.Owner.length:Int) row=true) (h6:∀o∈g.Arena.Owner,inR 2 o=true) (h7:∀x∈g.Prio,inR 41 x=true):parityOk g=true:=by
 simp only[parityOk,arenaOk,vI,decide_eq_true_eq,beq_iff_eq]
 refine⟨⟨⟨⟨⟨by omega,by omega⟩,by omega⟩,?_⟩,by omega⟩,by rw[List.all_eq_true];exact h7⟩
 rw[List.all_eq_true]
 rintro⟨row,i⟩ hx
 have hx:=List.mem_zipIdx_iff_getElem?.1 hx
 dsimp only at hx ⊢
 have hlt:=(it.1 hx).1
 obtain⟨k1,k2,k3⟩:=h5 row (t0 hx)
 have ho:g.Arena.Owner[i]? =some (g.Arena.Owner[i]'(by omega)):=hV (by omega)
 have:=h6 _ (List.getElem_mem (show i<g.Arena.Owner.length by omega))
 unfold vertOk
 simp only[ho,this,k3,Bool.and_true,Bool.true_and,vI,decide_eq_true_eq]
 exact⟨by omega,by omega⟩
end Go.Proofs.YtpcjbkgbnoocaaaGreat
set_option linter.unusedVariables false
set_option linter.unusedSimpArgs false
namespace Go.Proofs.YtpcjbkgbnoocaaaGreat
open Go Go.Wk Go.Proofs
def sigOk (p:Sig):Bool:=(decide (1<=p.In)&&decide (p.In<=2))&&(decide (1<=p.Out)&&decide (p.Out<=2))
theorem eE (p:Sig):iH p=some (sigOk p):=by
 unfold iH sigOk
 simp only[cV,gs]
 cases(decide (1<=p.In)&&decide (p.In<=2)) <;> simp
theorem og (p:Sig):lI p=some (sigOk p):=by
 unfold lI sigOk
 by_cases h1:1<=p.In <;> by_cases h2:p.In<=2 <;> by_cases h3:1<=p.Out <;> by_cases h4:p.Out<=2 <;> simp[h1,h2,h3,h4]
theorem oU (xs:List Int){n:Int}(h0: -1000000000000000000<=n) (h1:n<=1000000000000000000):jg xs n=some (xs.all (inR n)):=by
 unfold jg
 have hm:=cI (f:=fc xs n) (r:=false) (inR n) (xs:=xs) rfl (λi y hy=>by
  unfold fc
  rw[wr' (by omega) (by omega),bG,hy,gs,cV,gs]
  have:(decide (0<=y)&&decide (y<=n-1))=inR n y:=by
   unfold inR
   congr 1
   exact decide_eq_decide.2 (by omega)
  rw[this]
  cases inR n y <;> rfl)
 rw[hm,gs]
 cases xs.all (inR n) <;> rfl
theorem nQ (xs:List Int) (n:Int):gj xs n=some (xs.all (inR n)):=by
 unfold gj
 rw[dm (λx=>decide (x<0)||decide (n<=x)) (λx _=>by
  unfold dP
  by_cases h:x<0 <;> simp[h]),gs]
 congr 1
 rw[List.all_eq_not_any_not]
 congr 2
 funext x
 unfold inR
 by_cases h:x<0 <;> by_cases h':n<=x <;> simp[h,h'] <;> omega
def pw (n:Int):Int:=if n=1 then 2 else 4
theorem ek {n:Int}(h:n=1\/n=2):cY n=some (pw n):=by
 unfold cY
 rcases h with rfl | rfl
 · rw[jx (by omega)]
   have:ef (1,1)=some (.inr (.inr (0,2))):=by decide
   rw[this,gs,mE,jx (by omega)]
   rfl
 · rw[jx (by omega)]
   have:ef (2,1)=some (.inr (.inr (1,2))):=by decide
   rw[this,gs,mE,jx (by omega)]
   have:ef (1,2)=some (.inr (.inr (0,4))):=by decide
   rw[this,gs,mE,jx (by omega)]
   rfl
theorem nX {n:Int}(h:n=1\/n=2):nn n=some ()/\IntKind.i64.wrap (1 * 2 ^ (min (Int.toNat n) (IntKind.bits IntKind.i64)))=pw n:=by
 rcases h with rfl | rfl <;> decide
theorem dE {p:Sig}(h:sigOk p=true):(p.In=1\/p.In=2)/\(p.Out=1\/p.Out=2):=by
 simp only[sigOk,vI,decide_eq_true_eq]at h
 omega
theorem kQ (n:Int):2<=pw n/\pw n<=4:=by unfold pw;split <;> omega
end Go.Proofs.YtpcjbkgbnoocaaaGreat
set_option linter.unusedVariables false
set_option linter.unusedSimpArgs false
namespace Go.Proofs.YtpcjbkgbnoocaaaGreat
open Go Go.Wk Go.Proofs
theorem up {xs:List Int}(h:Asc xs){n:Int}(hn:n∉xs) (hl:xs.length<=100000):g6 xs n=some (ins n xs):=by
 obtain⟨o,w1,w2⟩:=cw (f:=er xs n) (λj (s:Int)=>s=(j:Int)/\j<=xs.length/\∀(i:Nat) x,i<j->xs[i]? =some x->x<n) (λ_=>False) (λs=>∃k:Nat,s=(k:Int)/\k<=xs.length/\(∀(i:Nat) x,i<k->xs[i]? =some x->x<n)/\∀x,xs[k]? =some x->n<x) xs.length (λj s ⟨e,hj,hall⟩=>by
  subst e
  unfold er
  by_cases hlt:(j:Int)<(xs.length:Int)
  · have hxj:xs[j]? =some (xs[j]'(by omega)):=hV (by omega)
    have hm:=List.getElem_mem (show j<xs.length by omega)
    generalize xs[j]'(by omega)=x at hxj hm
    simp only[hlt,decide_true,cond_true,bG,hxj,gs]
    by_cases hxn:x<n
    · simp only[hxn,decide_true,cond_true]
      refine⟨_,rfl,by omega,by rw[wr' (by omega) (by omega)];omega,by omega,λi y hi hy=>?_⟩
      by_cases hij:i=j
      · subst hij;rw[hxj]at hy;cases hy;exact hxn
      · exact hall i y (by omega) hy
    · simp only[hxn,decide_false,cond_false]
      refine⟨_,rfl,j,rfl,hj,hall,λy hy=>?_⟩
      rw[hxj]at hy
      cases hy
      have:x≠n:=λe=>hn (e ▸ hm)
      omega
  · simp only[hlt,decide_false,cond_false,gs]
    exact⟨_,rfl,j,rfl,hj,hall,λy hy=>by have:=(it.1 hy).1;omega⟩)
  (2 ^ 64) 0 0 (by omega) ⟨rfl,by omega,λi x hi=>by omega⟩ (by omega)
 match o,w2 with
 | .inr s,⟨k,e,hk,h1,h2⟩=>
  subst e
  unfold g6
  rw[w1,gs,bK]
  have hc:(ds (bif decide ((k:Int)<(xs.length:Int)) then ds (idx xs (k:Int)) λx28=>some (x28==n) else some false) λp32=>bif p32 then some xs else
   ds (subS xs 0 (k:Int)) λx36=>ds (di x36) λx37=>ds (appS 8 x37 [n]) λx40=>ds (subS xs (k:Int) (xs.length:Int)) λx44=>ds (appS 8 x40 x44) λx45=>some x45)=some (xs.take k++[n]++xs.drop k):=by
   have hp:(bif decide ((k:Int)<(xs.length:Int)) then ds (idx xs (k:Int)) λx28=>some (x28==n) else some false)=some false:=by
    by_cases hlt:(k:Int)<(xs.length:Int)
    · have hxk:xs[k]? =some (xs[k]'(by omega)):=hV (by omega)
      have:=h2 _ hxk
      have hne:(xs[k]'(by omega)==n)=false:=by
       rw[beq_eq_false_iff_ne];omega
      simp only[hlt,decide_true,cond_true,bG,hxk,gs,hne]
    · simp only[hlt,decide_false,cond_false]
   have hs1:subS xs 0 (k:Int)=some (xs.take k):=by
    unfold subS
    rw[if_pos (by omega),vM];rfl
   have hs2:subS xs (k:Int) (xs.length:Int)=some (xs.drop k):=by
    unfold subS
    rw[if_pos (by omega),vM,vM,List.take_length]
   have ht:(xs.take k).length<=100000:=by rw[List.length_take];omega
   rw[hp,gs]
   simp only[cond_false]
   rw[hs1,gs]
   unfold di
   rw[appL (by rw[vP];omega) rfl,gs,gs,List.nil_append,app1 (by omega) rfl,gs,hs2,gs,appL (by rw[vK,List.length_drop,List.length_singleton];omega) rfl]
   rfl
  rw[hc,List.append_assoc,List.singleton_append,ss h hn hk h1 h2]
theorem rM {xs:List Int}(hl:xs.length<=10000000):di xs=some xs:=by
 unfold di
 rw[appL (by rw[vP];omega) rfl];rfl
end Go.Proofs.YtpcjbkgbnoocaaaGreat
set_option linter.unusedVariables false
set_option linter.unusedSimpArgs false
namespace Go.Proofs.YtpcjbkgbnoocaaaGreat
open Go Go.Wk Go.Proofs
def pairOk (n:Int) (x:Pair):Bool:=setOk n x.Ask&&setOk n x.Give
def pairsOk (xs:List Pair) (n:Int):Bool:=decide ((xs.length:Int)<=4)&&xs.all (pairOk n)
section
variable {xs:List Pair}{n:Int}(h0:0<=n) (h1:n<=256) (hb:∀x∈xs,x.Ask.length<=1000000000/\x.Give.length<=1000000000)
include h0 h1 hb
omit hb in
theorem ns {s:List Int}(hl:s.length<=1000000000):iM s n=some (setOk n s):=by
 unfold iM
 rw[cV,iX h0 (by omega) hl]
 simp[h0,h1]
theorem lY:iP xs n=some (pairsOk xs n):=by
 unfold iP pairsOk
 rw[cV]
 simp only[h0,h1,decide_true,Bool.and_self,gs,vJ,cond_false,ov]
 cases decide ((xs.length:Int)<=4) with
 | false=>rfl
 | true=>
  rw[cI (f:=go xs n) (r:=false) (pairOk n) (xs:=xs) rfl (λi x hx=>by
   obtain⟨b1,b2⟩:=hb x (t0 hx)
   unfold go pairOk
   rw[bG,hx]
   simp only[gs,ns h0 h1 b1,ns h0 h1 b2]
   cases setOk n x.Ask <;> cases setOk n x.Give <;> rfl)]
  simp only[vJ,cond_false,gs,Bool.true_and]
  cases xs.all (pairOk n) <;> rfl
end
end Go.Proofs.YtpcjbkgbnoocaaaGreat
set_option linter.unusedVariables false
set_option linter.unusedSimpArgs false
namespace Go.Proofs.YtpcjbkgbnoocaaaGreat
open Go Go.Wk Go.Proofs
theorem oJ {row:List Int}{v:Int}:gY row v=some (decide (v∈row)):=by
 unfold gY
 rw[cI (f:=jA row v) (r:=true) (xs:=row) (λx=> !(x==v)) rfl (λi x hx=>by
  unfold jA
  rw[bG,hx,gs]
  cases x==v <;> rfl)]
 by_cases h:v∈row
 · have:(row.all λx=> !(x==v))=false:=by
    rw[List.all_eq_false]
    exact⟨v,h,by simp⟩
   rw[this,decide_eq_true h];rfl
 · have:(row.all λx=> !(x==v))=true:=by
    rw[List.all_eq_true]
    intro x hx
    have:x≠v:=λe=>h (e ▸ hx)
    simp[this]
   rw[this,decide_eq_false h];rfl
theorem uh {xs:List Int}(h:Asc xs){n:Int}(hn:n∈xs) (hl:xs.length<=100000):g6 xs n=some xs:=by
 obtain⟨k,hk⟩:=List.getElem?_of_mem hn
 have hkl:=(it.1 hk).1
 obtain⟨o,w1,w2⟩:=cw (f:=er xs n) (λj (s:Int)=>s=(j:Int)/\j<=k) (λ_=>False) (λs=>s=(k:Int)) xs.length (λj s ⟨e,hj⟩=>by
  subst e
  have hxj:xs[j]? =some (xs[j]'(by omega)):=hV (by omega)
  generalize xs[j]'(by omega)=x at hxj
  unfold er
  rw[decide_eq_true (show(j:Int)<(xs.length:Int) by omega),cond_true,bG,hxj,gs,gs]
  by_cases e:j=k
  · subst e
    rw[hxj]at hk
    cases hk
    rw[decide_eq_false (Int.lt_irrefl _),cond_false]
    exact⟨_,rfl,rfl⟩
  · have:=qz h hxj hk (by omega)
    rw[decide_eq_true this,cond_true]
    exact⟨_,rfl,by omega,by rw[wr' (by omega) (by omega)];omega,by omega⟩)
  (2 ^ 64) 0 0 (by omega) ⟨rfl,Nat.zero_le _⟩ (by omega)
 match o,w2 with
 | .inr s,e=>
  have e:s=(k:Int):=e
  subst e
  unfold g6
  rw[w1,gs,bK,decide_eq_true (show(k:Int)<(xs.length:Int) by omega),cond_true,bG,hk,gs,gs]
  simp
theorem tN {xs:List Int}(h:Asc xs) (n:Int) (hl:xs.length<=100000):∃R,g6 xs n=some R/\Asc R/\∀z,z∈R↔z=n\/z∈xs:=by
 by_cases hn:n∈xs
 · exact⟨xs,uh h hn hl,h,λz=>⟨.inr,λk=>k.elim (λe=>e ▸ hn) id⟩⟩
 · exact⟨_,up h hn hl,nW h,nV hn⟩
structure St (n:Nat) (xs:List Int):Prop where
 asc:Asc xs
 rng:∀x∈xs,0<=x/\x<n
theorem St.len {n:Nat}{xs:List Int}(h:St n xs):xs.length<=n:=eH n xs (gV h.asc) h.rng
theorem St.ok {n:Nat}{xs:List Int}(h:St n xs){m:Int}(hm:(n:Int)<=m):setOk m xs=true:=eh.2 ⟨λx hx=>by have:=h.rng x hx;omega,h.asc⟩
theorem St.of {n:Nat}{xs:List Int}(h:setOk (n:Int) xs=true):St n xs:=⟨(eh.1 h).2,(eh.1 h).1⟩
theorem St.filter {n:Nat}{xs:List Int}(h:St n xs) (p:Int->Bool):St n (xs.filter p):=⟨h.asc.filter _,λx hx=>h.rng x (List.mem_filter.1 hx).1⟩
end Go.Proofs.YtpcjbkgbnoocaaaGreat
set_option linter.unusedVariables false
set_option linter.unusedSimpArgs false
namespace Go.Proofs.YtpcjbkgbnoocaaaGreat
open Go Go.Wk Go.Proofs
def ltd (p:Sig):Int:=pw p.In * pw p.Out
theorem nA {p:Sig}(hs:sigOk p=true):cH p=some (ltd p):=by
 unfold cH
 rw[eE,hs]
 obtain⟨hi,ho⟩:=dE hs
 unfold ltd
 simp only[gs,vJ,cond_false]
 rcases hi with h | h <;> rcases ho with k | k <;> rw[h,k] <;> decide
theorem nE {p:Sig}(hs:sigOk p=true):cM p=some (ltd p):=by
 obtain⟨h1,h2⟩:=dE hs
 unfold cM ltd
 rcases h1 with h1 | h1 <;> rcases h2 with h2 | h2 <;> rw[h1,h2] <;> decide
def detRow (p:Sig) (n:Int) (row:List Int):Bool:=((row.length:Int)==ltd p)&&row.all (inR n)
def detOk (p:Sig) (d:Det):Bool:=decide (1<=(d.Next.length:Int))&&decide ((d.Next.length:Int)<=48)&&pairsOk d.Pairs d.Next.length&&d.Next.all (detRow p d.Next.length)
section
variable {p:Sig}{d:Det}(hs:sigOk p=true) (hb:∀x∈d.Pairs,x.Ask.length<=1000000000/\x.Give.length<=1000000000)
include hs hb
theorem ik:gt p d=some (detOk p d):=by
 unfold gt detOk
 rw[eE,hs]
 simp only[gs,vJ,cond_false,cV]
 cases h1:(decide (1<=(d.Next.length:Int))&&decide ((d.Next.length:Int)<=48)) with
 | false=>rfl
 | true=>
  simp only[vI,decide_eq_true_eq]at h1
  rw[cI (f:=jE p d) (r:=false) (detRow p d.Next.length) (xs:=d.Next) rfl (λi row hx=>by
   unfold jE detRow
   rw[bG,hx]
   simp only[gs,nA hs,oU row (n:=(d.Next.length:Int)) (by omega) (by omega),bne]
   cases((row.length:Int)==ltd p) <;> cases row.all (inR d.Next.length) <;> rfl),lY (by omega) (by omega) hb]
  simp only[vJ,cond_false,gs,Bool.true_and]
  cases d.Next.all (detRow p d.Next.length) <;> cases pairsOk d.Pairs d.Next.length <;> rfl
omit hs hb in
theorem gG (h:detOk p d=true):1<=d.Next.length/\d.Next.length<=48/\d.Pairs.length<=4/\∀row∈d.Next,RowIn d.Next.length (ltd p) row:=by
 simp only[detOk,pairsOk,vI,decide_eq_true_eq,List.all_eq_true]at h
 obtain⟨⟨⟨h1,h2⟩,h3,_⟩,h4⟩:=h
 refine⟨by omega,by omega,by omega,λrow hr=>?_⟩
 have:=h4 row hr
 simp only[detRow,vI,beq_iff_eq,List.all_eq_true,gk]at this
 exact this
end
end Go.Proofs.YtpcjbkgbnoocaaaGreat
set_option linter.unusedVariables false
set_option linter.unusedSimpArgs false
namespace Go.Proofs.YtpcjbkgbnoocaaaGreat
open Go Go.Wk Go.Proofs
def ltr (p:Sig):Int:=pw p.In * pw p.Out
theorem nc {p:Sig}(hs:sigOk p=true):4<=ltr p/\ltr p<=16:=by
 obtain⟨hi,ho⟩:=dE hs
 unfold ltr pw
 rcases hi with h | h <;> rcases ho with k | k <;> rw[h,k] <;> decide
theorem gf {p:Sig}(hs:sigOk p=true):cH p=some (ltr p):=by
 unfold cH
 rw[eE,hs]
 obtain⟨hi,ho⟩:=dE hs
 unfold ltr
 simp only[gs,vJ,cond_false]
 rcases hi with h | h <;> rcases ho with k | k <;> rw[h,k] <;> decide
theorem jB {p:Sig}(hs:sigOk p=true):cM p=some (ltr p):=by
 unfold cM
 obtain⟨hi,ho⟩:=dE hs
 unfold ltr
 rcases hi with h | h <;> rcases ho with k | k <;> rw[h,k] <;> decide
def clauseOk (p:Sig) (c:Clause):Bool:=decide (1<=c.Kind)&&decide (c.Kind<=7)&&setOk (ltr p) c.A&&setOk (ltr p) c.B&&(c.Kind==2||c.Kind==3||c.Kind==7||((c.B.length:Int)==0))
theorem lZ {p:Sig}(hs:sigOk p=true){c:Clause}(hb:Clause.bd c):gO p c=some (clauseOk p c):=by
 obtain⟨_,⟨hA,_⟩,⟨hB,_⟩⟩:=hb
 have hl:=nc hs
 unfold gO clauseOk lP
 rw[eE,hs,gf hs]
 simp only[gs,vJ,cond_false,cV,iX (xs:=c.A) (n:=ltr p) (by omega) (by omega) (by omega),iX (xs:=c.B) (n:=ltr p) (by omega) (by omega) (by omega),orE,andE]
 generalize decide (1<=c.Kind)=b1
 generalize decide (c.Kind<=7)=b2
 generalize setOk (ltr p) c.A=b3
 generalize setOk (ltr p) c.B=b4
 generalize(c.Kind==2)=b5
 generalize(c.Kind==3)=b6
 generalize(c.Kind==7)=b7
 generalize((c.B.length:Int)==0)=b8
 cases b1 <;> cases b2 <;> cases b3 <;> cases b4 <;> cases b5 <;> cases b6 <;> cases b7 <;> cases b8 <;> rfl
theorem pt {p:Sig}(hs:sigOk p=true){c:Clause}(hb:Clause.bd c):i7 p c=some (clauseOk p c):=by
 obtain⟨_,⟨hA,_⟩,⟨hB,_⟩⟩:=hb
 unfold i7 clauseOk jL
 have e1:decide (c.Kind<1)= !decide (1<=c.Kind):=by rw[← decide_not];exact decide_eq_decide.2 (by omega)
 have e2:decide (7<c.Kind)= !decide (c.Kind<=7):=by rw[← decide_not];exact decide_eq_decide.2 (by omega)
 rw[jB hs,e1,e2]
 simp only[gs,i8 (xs:=c.A) (n:=ltr p) (by omega),i8 (xs:=c.B) (n:=ltr p) (by omega),orE,andE]
 generalize decide (1<=c.Kind)=b1
 generalize decide (c.Kind<=7)=b2
 generalize setOk (ltr p) c.A=b3
 generalize setOk (ltr p) c.B=b4
 generalize(c.Kind==2)=b5
 generalize(c.Kind==3)=b6
 generalize(c.Kind==7)=b7
 generalize((c.B.length:Int)==0)=b8
 cases b1 <;> cases b2 <;> cases b3 <;> cases b4 <;> cases b5 <;> cases b6 <;> cases b7 <;> cases b8 <;> rfl
theorem oS {p:Sig}(hs:sigOk p=true){cs:List Clause}(hb:∀c∈cs,Clause.bd c):eJ p cs=some (decide ((cs.length:Int)<=3)&&cs.all (clauseOk p)):=by
 unfold eJ
 rw[eE,hs]
 have e:decide (3<(cs.length:Int))= !decide ((cs.length:Int)<=3):=by rw[← decide_not];exact decide_eq_decide.2 (by omega)
 simp only[gs,vJ,cond_false,e]
 cases decide ((cs.length:Int)<=3) with
 | false=>rfl
 | true=>
  simp only[vJ,cond_false,Bool.true_and]
  rw[cI (f:=eG p cs) (r:=false) (clauseOk p) (xs:=cs) rfl (λi c hc=>by
   unfold eG
   rw[bG,hc,gs,lZ hs (hb c (t0 hc)),gs]
   cases clauseOk p c <;> rfl)]
  cases cs.all (clauseOk p) <;> rfl
theorem nJ {p:Sig}(hs:sigOk p=true){cs:List Clause}(hb:∀c∈cs,Clause.bd c):gw p cs=some (decide ((cs.length:Int)<=3)&&cs.all (clauseOk p)):=by
 unfold gw
 rw[cK (λc=> !clauseOk p c) (λc hc=>by
  unfold dw
  rw[pt hs (hb c hc)];rfl)]
 simp only[gs,andE]
 rw[List.all_eq_not_any_not]
end Go.Proofs.YtpcjbkgbnoocaaaGreat
set_option linter.unusedVariables false
set_option linter.unusedSimpArgs false
namespace Go.Proofs.YtpcjbkgbnoocaaaGreat
open Go Go.Wk Go.Proofs
abbrev Key:=Int×Int
def loc (K:List Key) (k:Key):Option Nat:=K.findIdx? (λx=>k==x)
def addK (K:List Key) (k:Key):List Key:=match loc K k with | some _=>K | none=>K++[k]
def atK (K:List Key) (k:Key):Int:=match loc K k with | some i=>(i:Int) | none=>(K.length:Int)
theorem tP (K:List Key) (k:Key):K.length<=(addK K k).length/\(addK K k).length<=K.length+1:=by
 unfold addK
 cases loc K k <;> simp
theorem rC {K:List Key}{k:Key}{i:Nat}{v:Key}(h:K[i]? =some v):(addK K k)[i]? =some v:=by
 unfold addK
 cases loc K k with
 | some _=>exact h
 | none=>
  have:=(it.1 h).1
  dsimp only
  rw[List.getElem?_append_left this];exact h
theorem tn {K:List Key}{k x:Key}(h:x∈addK K k):x∈K\/x=k:=by
 unfold addK at h
 cases e:loc K k with
 | some _=>rw[e]at h;exact .inl h
 | none=>rw[e]at h;simpa using h
theorem tT {K:List Key}{k:Key}{i:Nat}(h:loc K k=some i):K[i]? =some k:=by
 unfold loc at h
 obtain⟨h1,h2,h3⟩:=List.findIdx?_eq_some_iff_getElem.1 h
 have:k=K[i]:=by simpa using h2
 rw[hV h1,← this]
theorem tp {K:List Key}{k:Key}(h:loc K k=none):k∉K:=λhm=>by
 unfold loc at h
 rw[List.findIdx?_eq_none_iff]at h
 have:=h k hm
 simp at this
theorem uG (K:List Key) (k:Key):0<=atK K k/\(addK K k)[(atK K k).toNat]? =some k:=by
 unfold atK addK
 cases h:loc K k with
 | none=>exact⟨by dsimp only;omega,by dsimp only;rw[vM];simp⟩
 | some i=>exact⟨by dsimp only;omega,by dsimp only;rw[vM];exact tT h⟩
theorem se {K:List Key}(hn:K.Nodup) (k:Key):(addK K k).Nodup:=by
 unfold addK
 cases h:loc K k with
 | none=>
  dsimp only
  refine List.nodup_append.2 ⟨hn,by simp,λa ha b hb e=>?_⟩
  rw[vL]at hb
  exact tp h (hb ▸ e ▸ ha)
 | some i=>exact hn
def rowK (ky:Int->Key) (K:List Key):Nat->List Key×List Int
 | 0=>(K,[])
 | j+1=>(addK (rowK ky K j).1 (ky j),(rowK ky K j).2++[atK (rowK ky K j).1 (ky j)])
structure RowK (ky:Int->Key) (K:List Key) (j:Nat) (K':List Key) (row:List Int):Prop where
 pre:∀(i:Nat) v,K[i]? =some v->K'[i]? =some v
 len:K.length<=K'.length
 le:K'.length<=K.length+j
 nod:K.Nodup->K'.Nodup
 rl:row.length=j
 at_:∀i:Nat,i<j->∃x,row[i]? =some x/\0<=x/\K'[x.toNat]? =some (ky i)
 mem:∀v∈K',v∈K\/∃i:Nat,i<j/\v=ky i
theorem lO (ky:Int->Key) (K:List Key):∀j,RowK ky K j (rowK ky K j).1 (rowK ky K j).2
 | 0=>⟨λ_ _ h=>h,Nat.le_refl _,Nat.le_refl _,id,rfl,λi hi=>absurd hi (Nat.not_lt_zero i),λv h=> .inl h⟩
 | j+1=>by
  have h:=lO ky K j
  unfold rowK
  generalize rowK ky K j=F at *
  have hl:=tP F.1 (ky j)
  obtain⟨a0,a1⟩:=uG F.1 (ky j)
  refine⟨λi v hv=>rC (h.pre i v hv),Nat.le_trans h.len hl.1,?_,λhn=>se (h.nod hn) _,by simp[h.rl],λi hi=>?_,λv hv=>?_⟩
  · have:=h.le;dsimp only;omega
  · by_cases e:i=j
    · subst e
      refine⟨_,by rw[← h.rl];simp,a0,a1⟩
    · obtain⟨x,x1,x2,x3⟩:=h.at_ i (by omega)
      have hix:=(it.1 x1).1
      exact⟨x,by rw[List.getElem?_append_left hix];exact x1,x2,rC x3⟩
  · rcases tn hv with hv | hv
    · rcases h.mem v hv with k | ⟨i,hi,e⟩
      · exact .inl k
      · exact .inr ⟨i,by omega,e⟩
    · exact .inr ⟨j,by omega,hv⟩
structure Prod (ky:Key->Int->Key) (k:Nat) (K:List Key) (i:Nat) (R:List (List Int)):Prop where
 nod:K.Nodup
 zero:K[0]? =some (0,0)
 il:i<=K.length
 rl:R.length=i
 row:∀(j:Nat) r,R[j]? =some r->r.length=k/\∃v,K[j]? =some v/\∀x:Nat,x<k->∃y,r[x]? =some y/\0<=y/\K[y.toNat]? =some (ky v x)
 src:∀(q:Nat) u,K[q]? =some u->q=0\/∃(j x:Nat) (v:Key),j<q/\j<i/\K[j]? =some v/\x<k/\u=ky v x
theorem Prod.init (ky:Key->Int->Key) (k:Nat):Prod ky k [(0,0)] 0 []:=⟨by simp,rfl,by simp,rfl,λj r h=>by simp at h,λq u h=>by
 cases q with
 | zero=>exact .inl rfl
 | succ q=>simp at h⟩
theorem Prod.step {ky:Key->Int->Key}{k:Nat}{K:List Key}{i:Nat}{R:List (List Int)}(h:Prod ky k K i R){v:Key}(hv:K[i]? =some v):Prod ky k (rowK (ky v) K k).1 (i+1) (R++[(rowK (ky v) K k).2]):=by
 have r:=lO (ky v) K k
 generalize rowK (ky v) K k=F at *
 have hi:=(it.1 (r.pre i v hv)).1
 refine⟨r.nod h.nod,r.pre 0 _ h.zero,by omega,by simp[h.rl],λj row hj=>?_,λq u hq=>?_⟩
 rotate_left
 · have hiK:=(it.1 hv).1
   by_cases e:q<K.length
   · have hq':K[q]? =some K[q]:=hV e
     have:=r.pre q _ hq'
     rw[hq]at this
     have e':u=K[q]:=Option.some.inj this
     rcases h.src q _ hq' with h0 | ⟨j,x,v',a1,a2,a3,a4,a5⟩
     · exact .inl h0
     · exact .inr ⟨j,x,v',a1,by omega,r.pre _ _ a3,a4,by rw[e',a5]⟩
   · rcases r.mem u (t0 hq) with hm | ⟨x,x1,x2⟩
     · obtain⟨q',hq'⟩:=List.getElem?_of_mem hm
       have hl':=(it.1 hq').1
       have hq2:=r.pre q' u hq'
       have:=(List.getElem?_inj (by have:=(it.1 hq2).1;exact this) (r.nod h.nod)).1 (hq2.trans hq.symm)
       omega
     · exact .inr ⟨i,x,v,by omega,Nat.lt_succ_self _,r.pre i v hv,x1,x2⟩
 by_cases e:j<R.length
 · rw[List.getElem?_append_left e]at hj
   obtain⟨a,v',b,c⟩:=h.row j row hj
   refine⟨a,v',r.pre j v' b,λx hx=>?_⟩
   obtain⟨y,y1,y2,y3⟩:=c x hx
   exact⟨y,y1,y2,r.pre _ _ y3⟩
 · have:j=i:=by
    have:=(it.1 hj).1
    rw[vK]at this
    simp only[vN,vP]at this
    have:=h.rl
    omega
   subst this
   rw[← h.rl]at hj
   simp at hj
   subst hj
   exact⟨r.rl,v,r.pre _ _ hv,r.at_⟩
theorem qY {A B:Nat}{K:List Key}(hn:K.Nodup) (hk:∀v∈K,0<=v.1/\v.1<A/\0<=v.2/\v.2<B):K.length<=A * B:=by
 have hmul:∀a b:Int,a<b->a * B+B<=b * B:=λa b h=>by
  have:=Int.mul_le_mul_of_nonneg_right (show a+1<=b by omega) (show(0:Int)<=(B:Int) by omega)
  rwa [Int.add_mul,Int.one_mul]at this
 have h:=eH (A * B) (K.map λv=>v.1 * B+v.2) (by
  rw[List.Nodup,List.pairwise_map]
  refine List.Pairwise.imp_of_mem (λ{a b} ha hb hne e=>?_) hn
  obtain⟨a0,a1,a2,a3⟩:=hk a ha
  obtain⟨b0,b1,b2,b3⟩:=hk b hb
  by_cases h1:a.1<b.1
  · have:=hmul a.1 b.1 h1;omega
  · by_cases h2:b.1<a.1
    · have:=hmul b.1 a.1 h2;omega
    · have e1:a.1=b.1:=by omega
      rw[e1]at e
      exact hne (Prod.ext e1 (by omega))) (λx hx=>by
  obtain⟨v,hv,rfl⟩:=List.mem_map.1 hx
  obtain⟨a0,a1,a2,a3⟩:=hk v hv
  have h0:0<=v.1 * (B:Int):=Int.mul_nonneg a0 (by omega)
  have:=hmul v.1 A a1
  have e:((A * B:Nat):Int)=(A:Int) * (B:Int):=by simp
  rw[e]
  omega)
 rwa [vV]at h
def plK (part:Key->Int) (K:List Key) (S:List Int):Nat->List Int
 | 0=>[]
 | j+1=>plK part K S j++(match K[j]? with | some v=>if part v∈S then[(j:Int)] else[] | none=>[])
theorem qx (part:Key->Int) (K:List Key) (S:List Int):∀(j:Nat) (z:Int),z∈plK part K S j↔∃i:Nat,i<j/\z=(i:Int)/\∃v,K[i]? =some v/\part v∈S
 | 0,z=>by simp[plK]
 | j+1,z=>by
  unfold plK
  rw[vS,qx part K S j]
  constructor
  · rintro(⟨i,h1,h2⟩ | h)
    · exact⟨i,by omega,h2⟩
    · cases e:K[j]? with
      | none=>rw[e]at h;cases h
      | some v=>
       rw[e]at h
       dsimp only at h
       by_cases hv:part v∈S
       · rw[if_pos hv,vL]at h
         exact⟨j,by omega,h,v,e,hv⟩
       · rw[if_neg hv]at h;cases h
  · rintro⟨i,h1,h2,v,h3,h4⟩
    by_cases e:i=j
    · subst e
      right
      rw[h3]
      dsimp only
      rw[if_pos h4,vL]
      exact h2
    · exact .inl ⟨i,by omega,h2,v,h3,h4⟩
theorem sx (part:Key->Int) (K:List Key) (S:List Int):∀j:Nat,Asc (plK part K S j)
 | 0=>List.Pairwise.nil
 | j+1=>by
  unfold plK
  refine List.pairwise_append.2 ⟨sx part K S j,?_,λa ha b hb=>?_⟩
  · cases K[j]? with
    | none=>exact List.Pairwise.nil
    | some v=>dsimp only;split <;> simp
  · obtain⟨i,h1,h2,_⟩:=(qx part K S j a).1 ha
    have hb':b=(j:Int):=by
     cases e:K[j]? with
     | none=>rw[e]at hb;cases hb
     | some v=>
      rw[e]at hb
      dsimp only at hb
      split at hb
      · simpa using hb
      · cases hb
    omega
theorem sD (part:Key->Int) (K:List Key) (S:List Int):∀j:Nat,(plK part K S j).length<=j
 | 0=>Nat.le_refl _
 | j+1=>by
  unfold plK
  have:=sD part K S j
  rw[vK]
  have:(match K[j]? with | some v=>if part v∈S then[(j:Int)] else[] | none=>[]:List Int).length<=1:=by
   cases K[j]? with
   | none=>simp
   | some v=>dsimp only;split <;> simp
  omega
theorem tq (part:Key->Int) (K:List Key) (S:List Int) (j:Nat):St j (plK part K S j):=⟨sx part K S j,λx hx=>by
 obtain⟨i,h1,h2,_⟩:=(qx part K S j x).1 hx
 omega⟩
end Go.Proofs.YtpcjbkgbnoocaaaGreat
set_option linter.unusedVariables false
set_option linter.unusedSimpArgs false
namespace Go.Proofs.YtpcjbkgbnoocaaaGreat
open Go Go.Wk Go.Proofs
def b01 (b:Bool):Int:=if b then 1 else 0
theorem kJ (b:Bool):0<=b01 b/\b01 b<=1:=by cases b <;> decide
def mx (x y:Int):Int:=if x<y then y else x
def monNext (k q:Int) (a b:Bool):Int:=
 if k=1 then mx q (1-b01 a)
 else if k=2 then(if q=2\/(q=1/\b=false) then 2 else b01 a)
 else if k=3 then(if b=true then 0 else mx q (b01 a))
 else if k=4 then b01 a
 else if k=5 then 1-b01 a
 else if k=6 then mx q (b01 a)
 else 2 * b01 a+b01 b
def monStates (k:Int):Nat:=if k=2 then 3 else if k=7 then 4 else 2
def monPair (k:Int):Pair:=
 if k=1\/k=5 then⟨[1],[]⟩ else if k=2 then⟨[2],[]⟩ else if k=3 then⟨[1],[0]⟩ else if k=4 then⟨[0,1],[1]⟩ else if k=6 then⟨[0],[]⟩ else⟨[2,3],[1,3]⟩
def numsN (n:Nat):List Int:=(List.range n).map (λi:Nat=>(i:Int))
theorem kx (n:Nat):numsN (n+1)=numsN n++[(n:Int)]:=by simp[numsN,List.range_succ]
theorem gM (n:Nat):(numsN n).length=n:=by simp[numsN]
def monRow (c:Clause) (n:Nat) (q:Int):List Int:=(numsN n).map λx=>monNext c.Kind q (decide (x∈c.A)) (decide (x∈c.B))
def monD (c:Clause) (n:Nat):Det:=⟨(numsN (monStates c.Kind)).map (monRow c n),[monPair c.Kind]⟩
theorem kinds {k:Int}(h1:1<=k) (h2:k<=7):k=1\/k=2\/k=3\/k=4\/k=5\/k=6\/k=7:=by omega
theorem rR {k q:Int}(h1:1<=k) (h2:k<=7) (q0:0<=q) (q1:q<monStates k) (a b:Bool):0<=monNext k q a b/\monNext k q a b<monStates k:=by
 rcases kinds h1 h2 with h | h | h | h | h | h | h <;> subst h <;> cases a <;> cases b <;> simp only[monNext,monStates,mx,b01]at * <;> simp at * <;> (repeat' split) <;> omega
section
variable {p:Sig}(hs:sigOk p=true){c:Clause}(hb:Clause.bd c) (hc:clauseOk p c=true)
include hs hc
omit hs in
theorem mK:1<=c.Kind/\c.Kind<=7:=by
 unfold clauseOk at hc
 simp only[vI,decide_eq_true_eq]at hc
 exact⟨hc.1.1.1.1,hc.1.1.1.2⟩
omit hs in
theorem tk {q:Int}(q0:0<=q) (q1:q<=10) (x:Int):jW c q x=some (monNext c.Kind q (decide (x∈c.A)) (decide (x∈c.B))):=by
 obtain⟨k1,k2⟩:=mK hc
 unfold jW
 rw[oJ,gs,oJ]
 have hf:∀b:Bool,eb b=some (b01 b):=λb=>by unfold eb;cases b <;> rfl
 have hmx:∀x y:Int,iK x y=some (mx x y):=λx y=>by
  unfold iK mx
  by_cases h:y<x
  · rw[decide_eq_true h,if_neg (by omega)];rfl
  · rw[decide_eq_false h]
    by_cases h':x<y
    · rw[if_pos h'];rfl
    · rw[if_neg h']
      have:x=y:=by omega
      subst this;rfl
 rw[hf,gs,gs,hf,gs]
 generalize decide (x∈c.A)=a
 generalize decide (x∈c.B)=b
 have w1:IntKind.i64.wrap (1-b01 a)=1-b01 a:=by have:=kJ a;exact wr' (by omega) (by omega)
 have w2:IntKind.i64.wrap (2 * b01 a)=2 * b01 a:=by have:=kJ a;exact wr' (by omega) (by omega)
 have w3:IntKind.i64.wrap (2 * b01 a+b01 b)=2 * b01 a+b01 b:=by have:=kJ a;have:=kJ b;exact wr' (by omega) (by omega)
 rw[w1,w2,w3]
 rcases kinds k1 k2 with h | h | h | h | h | h | h <;> rw[h] <;> unfold monNext
 · simp[hmx]
 · by_cases hq2:q=2
   · subst hq2;simp
   · by_cases hq1:q=1
     · subst hq1;cases b <;> simp[b01]
     · have e1:(q==2)=false:=by simpa using hq2
       have e2:(q==1)=false:=by simpa using hq1
       simp[e1,e2,hq2,hq1]
 · cases b <;> simp[b01,hmx]
 · simp
 · simp
 · simp[hmx]
 · simp
omit hs in
theorem tj {q:Int}(q0:0<=q) (q1:q<=10) (a b:Bool):fB c.Kind q a b=some (monNext c.Kind q a b):=by
 obtain⟨k1,k2⟩:=mK hc
 unfold fB
 have e1:(bif a then some (1:Int) else some 0)=some (b01 a):=by cases a <;> rfl
 have e2:(bif b then some (true,(1:Int)) else some (false,(0:Int)))=some (b,b01 b):=by cases b <;> rfl
 rw[e1,e2,gs,gs]
 dsimp only
 have w1:IntKind.i64.wrap (1-b01 a)=1-b01 a:=by have:=kJ a;exact wr' (by omega) (by omega)
 have w2:IntKind.i64.wrap (2 * b01 a)=2 * b01 a:=by have:=kJ a;exact wr' (by omega) (by omega)
 have w3:IntKind.i64.wrap (2 * b01 a+b01 b)=2 * b01 a+b01 b:=by have:=kJ a;have:=kJ b;exact wr' (by omega) (by omega)
 rw[w1,w2,w3]
 rcases kinds k1 k2 with h | h | h | h | h | h | h <;> rw[h] <;> unfold monNext mx
 · simp
 · by_cases hq2:q=2
   · subst hq2;simp
   · by_cases hq1:q=1
     · subst hq1;cases b <;> simp[b01]
     · have e1:(q==2)=false:=by simpa using hq2
       have e2:(q==1)=false:=by simpa using hq1
       simp[e1,e2,hq2,hq1]
 · cases b <;> simp[b01]
 · simp
 · simp
 · simp
 · simp
include hb
theorem tg {n:Nat}(hn:ltr p=n):io p c=some (monD c n):=by
 obtain⟨k1,k2⟩:=mK hc
 obtain⟨l1,l2⟩:=nc hs
 have hst:iB c.Kind=some ((monStates c.Kind:Nat):Int):=by
  unfold iB monStates
  rcases kinds k1 k2 with h | h | h | h | h | h | h <;> rw[h] <;> rfl
 have hpr:kh c.Kind=some (monPair c.Kind):=by
  unfold kh monPair
  rcases kinds k1 k2 with h | h | h | h | h | h | h <;> rw[h] <;> rfl
 have hns:monStates c.Kind<=4:=by unfold monStates;(repeat' split) <;> omega
 unfold io
 rw[lZ hs hb,hc,gs,vJ,cond_false,hpr,gs]
 obtain⟨o,w1,w2⟩:=cw (f:=eF p c) (λj (s:Int×List (List Int))=>s.1=(j:Int)/\j<=monStates c.Kind/\s.2=(numsN j).map (monRow c n)) (λ_=>False) (λs=>s.2=(numsN (monStates c.Kind)).map (monRow c n)) (monStates c.Kind) (λj s ⟨a1,a2,a3⟩=>by
  obtain⟨q,xs⟩:=s
  dsimp only at a1 a3
  subst a1
  unfold eF
  dsimp only
  rw[hst,gs]
  by_cases hlt:j<monStates c.Kind
  · obtain⟨o2,v1,v2⟩:=cw (f:=eT p c ((j:Int),xs)) (λi (s:List Int×Int)=>s.2=(i:Int)/\i<=n/\s.1=(numsN i).map λx=>monNext c.Kind (j:Int) (decide (x∈c.A)) (decide (x∈c.B))) (λ_=>False) (λs=>s.1=monRow c n (j:Int)) n (λi s ⟨b1,b2,b3⟩=>by
     obtain⟨ys,x⟩:=s
     dsimp only at b1 b3
     subst b1
     unfold eT
     dsimp only
     rw[gf hs,gs,hn]
     by_cases hi:i<n
     · rw[decide_eq_true (show(i:Int)<(n:Int) by omega),cond_true,tk hc (by omega) (by omega),gs,app1 (by rw[b3,vV,gM];omega) rfl,gs]
       refine⟨_,rfl,hi,by dsimp only;rw[wr' (by omega) (by omega)];omega,by omega,?_⟩
       dsimp only
       rw[b3,kx,List.map_append];rfl
     · have:i=n:=by omega
       subst this
       rw[decide_eq_false (Int.lt_irrefl _),cond_false]
       exact⟨_,rfl,b3⟩) (2 ^ 64) 0 ([],0) (by omega) ⟨rfl,Nat.zero_le _,rfl⟩ (by omega)
    match o2,v2 with
    | .inr s,v2=>
     have v2:s.1=monRow c n (j:Int):=v2
     rw[decide_eq_true (show(j:Int)<((monStates c.Kind:Nat):Int) by omega),cond_true,v1,gs,bK,app1 (by rw[a3,vV,gM];omega) rfl,gs]
     refine⟨_,rfl,hlt,by dsimp only;rw[wr' (by omega) (by omega)];omega,by omega,?_⟩
     dsimp only
     rw[a3,v2,kx,List.map_append];rfl
  · have:j=monStates c.Kind:=by omega
    rw[this]at a3 ⊢
    rw[decide_eq_false (Int.lt_irrefl _),cond_false]
    exact⟨_,rfl,a3⟩) (2 ^ 64) 0 (0,[]) (by omega) ⟨rfl,Nat.zero_le _,rfl⟩ (by omega)
 match o,w2 with
 | .inr s,w2=>
  have w2:s.2=(numsN (monStates c.Kind)).map (monRow c n):=w2
  rw[w1,gs,bK,w2];rfl
omit hb in
theorem te {n:Nat}(hn:ltr p=n):ic p c=some (monD c n):=by
 obtain⟨k1,k2⟩:=mK hc
 obtain⟨l1,l2⟩:=nc hs
 have hns:monStates c.Kind<=4:=by unfold monStates;(repeat' split) <;> omega
 have hrow:∀q:Nat,q<=10->cntM (dF c (q:Int)) n 0 []=some (.inr (monRow c n (q:Int))):=λq hq=>by
  obtain⟨s,h1,h2⟩:=ca (f:=dF c (q:Int)) (λi s=>s=(numsN i).map λx=>monNext c.Kind (q:Int) (decide (x∈c.A)) (decide (x∈c.B))) n (s:=[]) rfl (λi s hi hs'=>by
   subst hs'
   have hcon:∀l:List Int,bN l (i:Int)=some (decide ((i:Int)∈l)):=λl=>by
    rw[cX]
    congr 1
    rw[vQ,List.any_eq_true,decide_eq_true_eq]
    exact⟨λ⟨y,hy,e⟩=>(show(i:Int)=y by simpa using e) ▸ hy,λh=>⟨_,h,by simp⟩⟩
   unfold dF
   rw[hcon,hcon,gs,gs,tj hc (by omega) (by omega),gs,app1 (by rw[vV,gM];omega) rfl,gs]
   exact⟨_,rfl,by rw[kx,List.map_append];rfl⟩)
  rw[h1,h2];rfl
 have hall:∀m:Nat,m<=4->cntM (dS p c) m 0 []=some (.inr ((numsN m).map (monRow c n))):=λm hm=>by
  obtain⟨s,h1,h2⟩:=ca (f:=dS p c) (λi s=>s=(numsN i).map (monRow c n)) m (s:=[]) rfl (λi s hi hs'=>by
   subst hs'
   have hr:rng (n:Int)=some ():=by unfold rng;rw[if_pos (by omega)]
   unfold dS
   rw[jB hs,gs,hn,hr,gs,Int.sub_zero,vM,hrow i (by omega),gs,bK,app1 (by rw[vV,gM];omega) rfl,gs]
   exact⟨_,rfl,by rw[kx,List.map_append];rfl⟩)
  rw[h1,h2]
 unfold ic monD monPair monStates
 rcases kinds k1 k2 with h | h | h | h | h | h | h <;> rw[h]
 · have:=hall 2 (by omega)
   simp[rng,this,bK]
 · have:=hall 3 (by omega)
   simp[rng,this,bK]
 · have:=hall 2 (by omega)
   simp[rng,this,bK]
 · have:=hall 2 (by omega)
   simp[rng,this,bK]
 · have:=hall 2 (by omega)
   simp[rng,this,bK]
 · have:=hall 2 (by omega)
   simp[rng,this,bK]
 · have:=hall 4 (by omega)
   simp[rng,this,bK]
omit hs hb in
theorem uF {n:Nat}(hn:ltr p=n):detOk p (monD c n)=true/\(monD c n).Pairs.length=1:=by
 obtain⟨k1,k2⟩:=mK hc
 have hl:(monD c n).Next.length=monStates c.Kind:=by
  show((numsN _).map _).length=_
  rw[vV,gM]
 refine⟨?_,rfl⟩
 unfold detOk
 rw[hl]
 have hns:1<=monStates c.Kind/\monStates c.Kind<=4:=by unfold monStates;(repeat' split) <;> omega
 have hp:pairsOk (monD c n).Pairs (monStates c.Kind:Int)=true:=by
  show pairsOk [monPair c.Kind] _=true
  unfold monPair monStates
  rcases kinds k1 k2 with h | h | h | h | h | h | h <;> rw[h] <;> decide
 have hr:((monD c n).Next.all (detRow p (monStates c.Kind:Int)))=true:=by
  rw[List.all_eq_true]
  intro row hrow
  obtain⟨q,hq,rfl⟩:=List.mem_map.1 (show row∈(numsN (monStates c.Kind)).map (monRow c n) from hrow)
  obtain⟨i,hi,rfl⟩:=List.mem_map.1 hq
  rw[List.mem_range]at hi
  unfold detRow monRow
  rw[vV,gM,vI,List.all_eq_true]
  refine⟨by rw[beq_iff_eq];unfold ltd;unfold ltr at hn;exact hn.symm,λx hx=>?_⟩
  obtain⟨y,_,rfl⟩:=List.mem_map.1 hx
  exact gk.2 (rR k1 k2 (by omega) (by omega) _ _)
 rw[hp,hr,decide_eq_true (by omega),decide_eq_true (by omega)];rfl
end
end Go.Proofs.YtpcjbkgbnoocaaaGreat
set_option linter.unusedVariables false
set_option linter.unusedSimpArgs false
namespace Go.Proofs.YtpcjbkgbnoocaaaGreat
open Go Go.Wk Go.Proofs
def kyJ (a b:Det) (v:Key) (x:Int):Key:=(tab a.Next v.1 x,tab b.Next v.2 x)
def toL (v:Key):List Int:=[v.1,v.2]
def plP (part:Key->Int) (K:List Key) (p:Pair):Pair:=⟨plK part K p.Ask K.length,plK part K p.Give K.length⟩
def jD (a b:Det) (K:List Key) (R:List (List Int)):Det:=⟨R,a.Pairs.map (plP (·.1) K)++b.Pairs.map (plP (·.2) K)⟩
def zeroD:Det:=⟨[],[]⟩
def locI (K:List Key) (k:Key):Int:=match loc K k with | some i=>(i:Int) | none=> -1
theorem sL {α:Type}{F:List Key->Int->Option α}{K:List Key}{k:Key}{app:Option (List Key)}(ha:app=some (K++[k])):
 (ds (bif decide (locI K k<0) then ds app λx=>some (x,(K.length:Int)) else some (K,locI K k)) λq=>F q.1 q.2)=F (addK K k) (atK K k):=by
 unfold locI addK atK
 cases h:loc K k with
 | none=>
  dsimp only
  rw[decide_eq_true (by omega),cond_true,ha];rfl
 | some i=>
  dsimp only
  rw[decide_eq_false (by omega),cond_false];rfl
theorem tX {K:List Key}(hl:K.length<=1000) (k:Key):iV (K.map toL) k.1 k.2=some (locI K k):=by
 unfold iV
 rw[en (f:=ft (K.map toL) k.1 k.2) (λl=>l==toL k) (λi=>(i:Int)) (xs:=K.map toL) (λi l hl=>by
  rw[List.getElem?_map]at hl
  obtain⟨v,hv,rfl⟩:=Option.map_eq_some_iff.1 hl
  unfold ft
  rw[bG,List.getElem?_map,hv]
  show ds (some (toL v)) _=_
  rw[gs]
  show ds (some v.1) _=_
  rw[gs]
  have e:(toL v==toL k)=(v.1==k.1&&v.2==k.2):=by
   rw[vQ]
   simp[toL]
  rw[e]
  cases h1:v.1==k.1 with
  | false=>rfl
  | true=>
   rw[cond_true]
   show ds (ds (some (toL v)) λx25=>ds (idx x25 1) λx27=>some (x27==k.2)) _=_
   rw[gs]
   show ds (ds (some v.2) λx27=>some (x27==k.2)) _=_
   rw[gs,gs]
   cases v.2==k.2 <;> rfl),gs]
 unfold locI loc
 have hf:(K.map toL).findIdx? (λl=>l==toL k)=K.findIdx? (λx=>k==x):=by
  rw[List.findIdx?_map]
  congr 1
  funext v
  rw[vQ]
  simp only[Function.comp_apply,beq_iff_eq,toL,List.cons.injEq,and_true]
  exact⟨λ⟨h1,h2⟩=>Prod.ext h1.symm h2.symm,λh=>by rw[h];exact⟨rfl,rfl⟩⟩
 rw[hf]
 cases K.findIdx? (λx=>k==x) <;> rfl
theorem tu {K:List Key}(k:Key):cj K k=some (locI K k):=by
 unfold cj
 rw[en (f:=ch K k) (λx=>k==x) (λi=>(i:Int)) (xs:=K) (λi x hx=>by
  unfold ch
  rw[bG,hx,gs]
  have e:(k.1==x.1&&k.2==x.2)=(k==x):=by
   rw[vQ]
   simp only[vI,beq_iff_eq]
   exact⟨λ⟨h1,h2⟩=>Prod.ext h1 h2,λh=>by rw[h];exact⟨rfl,rfl⟩⟩
  first
   | rw[e]
   | skip
  cases k==x <;> rfl),gs]
 unfold locI loc
 cases K.findIdx? (λx=>k==x) <;> rfl
section
variable {p:Sig}{a b:Det}(ha:detOk p a=true) (hb:detOk p b=true){k:Nat}(hk:ltd p=k)
include ha hb hk
theorem rQ {v:Key}(v0:0<=v.1) (v1:v.1<a.Next.length) (v2:0<=v.2) (v3:v.2<b.Next.length){x:Nat}(hx:x<k):
 ∃r s,idx a.Next v.1=some r/\idx r (x:Int)=some (kyJ a b v x).1/\idx b.Next v.2=some s/\idx s (x:Int)=some (kyJ a b v x).2/\0<=(kyJ a b v x).1/\(kyJ a b v x).1<a.Next.length/\0<=(kyJ a b v x).2/\(kyJ a b v x).2<b.Next.length:=by
 obtain⟨_,_,_,n1⟩:=gG ha
 obtain⟨_,_,_,n2⟩:=gG hb
 obtain⟨r,r1,r2,r3,r4⟩:=rP n1 v0 v1 (i:=(x:Int)) (by omega) (by omega)
 obtain⟨s,s1,s2,s3,s4⟩:=rP n2 v2 v3 (i:=(x:Int)) (by omega) (by omega)
 exact⟨r,s,r1,r2,s1,s2,r3,r4,s3,s4⟩
def KinJ (a b:Det) (K:List Key):Prop:=∀v∈K,0<=v.1/\v.1<a.Next.length/\0<=v.2/\v.2<b.Next.length
theorem ue {K:List Key}(hK:KinJ a b K){v:Key}(hv:v∈K):KinJ a b (rowK (kyJ a b v) K k).1:=λu hu=>by
 obtain⟨v0,v1,v2,v3⟩:=hK v hv
 rcases(lO (kyJ a b v) K k).mem u hu with h | ⟨i,hi,e⟩
 · exact hK u h
 · subst e
   obtain⟨_,_,_,_,_,_,h⟩:=rQ ha hb hk v0 v1 v2 v3 hi
   exact h
theorem vq {K:List Key}(hl:K.length<=48) (h16:k<=16) (hK:KinJ a b K){i:Nat}{v:Key}(hv:K[i]? =some v){R:List (List Int)}{row:List Int}(hr:idx a.Next v.1=some row) (hrl:row.length=k):
 cntM (dI b (K,(i:Int),R) row) k 0 (K,[])=some (.inr (rowK (kyJ a b v) K k)):=by
 obtain⟨v0,v1,v2,v3⟩:=hK v (t0 hv)
 obtain⟨s,h1,h2,_⟩:=ca (f:=dI b (K,(i:Int),R) row) (λj s=>s=rowK (kyJ a b v) K j/\j<=k) k (s:=(K,[])) ⟨rfl,Nat.zero_le _⟩ (λj s hj ⟨e,_⟩=>by
  subst e
  obtain⟨r,s,r1,r2,s1,s2,_⟩:=rQ ha hb hk v0 v1 v2 v3 hj
  rw[hr]at r1
  cases r1
  have rk:=lO (kyJ a b v) K j
  have hlt:=rk.le
  have hrl':=rk.rl
  refine⟨rowK (kyJ a b v) K (j+1),?_,rfl,hj⟩
  unfold dI
  dsimp only
  rw[r2,gs,bG,rk.pre i v hv,gs,s1,gs,s2,gs]
  have hix:=tu (K:=(rowK (kyJ a b v) K j).1) (kyJ a b v j)
  rw[show((kyJ a b v j).1,(kyJ a b v j).2)=kyJ a b v j from rfl,hix,gs]
  have hst:=sL (K:=(rowK (kyJ a b v) K j).1) (k:=kyJ a b v j) (F:=λx y=>ds (appS 8 (rowK (kyJ a b v) K j).2 [y]) λx83=>(some (.inr (.inr (x,x83))):Option ((Det×Bool)⊕((List Key×List Int)⊕(List Key×List Int))))) (app:=appS 16 (rowK (kyJ a b v) K j).1 [kyJ a b v j]) (app1 (by omega) rfl)
  refine Eq.trans hst ?_
  show ds (appS 8 (rowK (kyJ a b v) K j).2 [_]) _=_
  rw[app1 (by omega) rfl,gs]
  rfl)
 rw[h1,h2]
theorem uY {K:List Key}(hl:K.length<=48) (h16:k<=16) (hK:KinJ a b K){i:Nat}{v:Key}(hv:K[i]? =some v){M:List (List Int)}{R:List (List Int)}:
 cntM (dQ a b (M,(i:Int),R)) k 0 (K.map toL,[])=some (.inr ((rowK (kyJ a b v) K k).1.map toL,(rowK (kyJ a b v) K k).2)):=by
 obtain⟨v0,v1,v2,v3⟩:=hK v (t0 hv)
 obtain⟨s,h1,h2,_⟩:=ca (f:=dQ a b (M,(i:Int),R)) (λj s=>s=((rowK (kyJ a b v) K j).1.map toL,(rowK (kyJ a b v) K j).2)/\j<=k) k (s:=(K.map toL,[])) ⟨rfl,Nat.zero_le _⟩ (λj s hj ⟨e,_⟩=>by
  subst e
  obtain⟨r,s,r1,r2,s1,s2,_⟩:=rQ ha hb hk v0 v1 v2 v3 hj
  have rk:=lO (kyJ a b v) K j
  have hlt:=rk.le
  have hrl':=rk.rl
  refine⟨((rowK (kyJ a b v) K (j+1)).1.map toL,(rowK (kyJ a b v) K (j+1)).2),?_,rfl,hj⟩
  unfold dQ
  dsimp only
  have g1:idx ((rowK (kyJ a b v) K j).1.map toL) (i:Int)=some (toL v):=by
   rw[bG,List.getElem?_map,rk.pre i v hv];rfl
  have g2:idx (toL v) 0=some v.1:=rfl
  have g3:idx (toL v) 1=some v.2:=rfl
  rw[g1,gs,g2,gs,r1,gs,r2,gs,gs,g3,gs,s1,gs,s2,gs,tX (by omega),gs]
  have hst:=sL (K:=(rowK (kyJ a b v) K j).1) (k:=kyJ a b v j) (F:=λx y=>ds (appS 8 (rowK (kyJ a b v) K j).2 [y]) λx83=>(some (.inr (.inr (x.map toL,x83))):Option ((Det×Bool)⊕(((List (List Int))×List Int)⊕((List (List Int))×List Int))))) (app:=some ((rowK (kyJ a b v) K j).1++[kyJ a b v j])) rfl
  rw[app1 (by omega) rfl]at hst
  have e2:appS 24 ((rowK (kyJ a b v) K j).1.map toL) [[(kyJ a b v j).1,(kyJ a b v j).2]]=some (((rowK (kyJ a b v) K j).1++[kyJ a b v j]).map toL):=by
   rw[app1 (by rw[vV];omega) rfl,List.map_append];rfl
  rw[e2,vV]
  rw[gs]at hst
  cases hd:decide (locI (rowK (kyJ a b v) K j).1 (kyJ a b v j)<0) with
  | true=>
   rw[hd]at hst
   simp only[cond_true,gs]at hst ⊢
   exact hst
  | false=>
   rw[hd]at hst
   simp only[cond_false,gs]at hst ⊢
   exact hst)
 rw[h1,h2]
end
end Go.Proofs.YtpcjbkgbnoocaaaGreat
