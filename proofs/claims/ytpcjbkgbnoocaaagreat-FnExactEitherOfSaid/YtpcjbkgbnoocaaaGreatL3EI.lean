/- Games with picks, on both sides; who holds a region. -/
import Derived.Test.YtpcjbkgbnoocaaaGreatL2EI
import Derived.Test.YtpcjbkgbnoocaaaGreatL0EI
set_option linter.unusedVariables false
set_option linter.unusedSimpArgs false
open Option renaming bind → ds, bind_some → gs
open List renaming getElem?_eq_getElem → hV, getElem?_eq_some_iff → it, replicate → sh, mem_of_getElem? → t0, getElem?_replicate → vG, length_append → vK, mem_singleton → vL, length_cons → vN, length_take → vO, length_nil → vP, getElem?_eq_none → vR, mem_append → vS, take_add_one → vT
open Bool renaming not_true → vJ, eq_iff_iff → vQ
namespace Go.Proofs.YtpcjbkgbnoocaaaGreat
open Go Go.Wk Go.Proofs
open Classical
def pkL (k:List Int) (v:Int):Int:=(idx k v).getD (-1)
theorem qb {k:List Int}{v x:Int}(h:idx k v=some x):pkL k v=x:=by unfold pkL;rw[h];rfl
theorem nT {k k':List Int}{v u:Int}(h:setI k v u=some k'):pkL k'=Par.updF (pkL k) v u:=by
 funext w
 unfold pkL Par.updF
 rw[cC h]
 by_cases e:w=v
 · rw[if_pos e,if_pos e];rfl
 · rw[if_neg e,if_neg e]
theorem lz {k:List Int}{n:Nat}(hk:k.length=n){v:Int}(h0:0<=v) (h1:v<n):idx k v=some (pkL k v):=by
 obtain⟨x,hx⟩:=cg (xs:=k) h0 (by omega)
 rw[qb hx];exact hx
def Xn (n:Nat):Int->Prop:=λv=>0<=v/\v<n
theorem lE {a:Arena}{v:Int}(h:idx a.Next v=none):rowI a v=[]:=by unfold rowI;rw[h];rfl
section
variable {g:Parity}{n:Nat}(h:GOk g n)
include h
theorem vB {v u:Int}(he:(gI g).E v u):Xn n v/\Xn n u:=by
 have he:u∈rowI g.Arena v:=he
 cases hr:idx g.Arena.Next v with
 | none=>rw[lE hr]at he;cases he
 | some r=>
  rw[eV hr]at he
  obtain⟨v0,v1⟩:=ck hr
  have:=h.ln
  exact⟨⟨v0,by omega⟩,(h.row v r hr).2.2 u he⟩
theorem uw (P:List (List Int)){k:List Int}(hk:k.length=n):gS ⟨g.Arena.Owner,g.Prio,g.Arena.Next,P,k⟩=Par.pickG (gI g) (pkL k):=by
 unfold gS gI Par.pickG mkG
 dsimp only
 congr 1
 funext v u
 apply propext
 cases hr:idx g.Arena.Next v with
 | none=>
  rw[lE hr]
  unfold rowS
  dsimp only
  rw[hr]
  simp
 | some r=>
  obtain⟨v0,v1⟩:=ck hr
  have hk':=lz hk v0 (by have:=h.ln;omega)
  rw[eV hr,nY (x:=⟨g.Arena.Owner,g.Prio,g.Arena.Next,P,k⟩) hr hk',List.mem_filter]
  unfold okE
  simp
end
theorem oK {g:Parity}(hp:parityOk g=true):iy g.Arena=some g.Arena:=by
 obtain⟨h1,h2,h3,h4,h5⟩:=cU hp
 unfold iy jI
 rw[appL (by rw[vP];omega) rfl,gs]
 obtain⟨s,e1,e2⟩:=ca (f:=ew g.Arena.Next) (λj s=>s=g.Arena.Next.take j) g.Arena.Next.length (s:=[]) rfl (λj s hj hs=>by
  subst hs
  have hx:g.Arena.Next[j]? =some g.Arena.Next[j]:=by simp[hj]
  have:=h5 j _ hx
  unfold ew
  rw[bG,hx,gs,appL (by rw[vP];omega) rfl,gs,app1 (by rw[vO];omega) rfl]
  refine⟨_,rfl,?_⟩
  rw[vT,hx];rfl)
 rw[e1,e2,List.take_length,gs,bK,gs]
 rfl
theorem pS {g:Parity}{n:Nat}(hp:parityOk g=true) (hn:n=g.Prio.length){k:List Int}(hk:k.length=n):∃s,ki g.Arena k=some ⟨g.Arena.Owner,s⟩/\s.length=n/\∀v r,idx g.Arena.Next v=some r->idx s v=some (if 0<=pkL k v then[pkL k v] else r):=by
 have h:=GOk.of hp
 rw[← hn]at h
 unfold ki
 rw[oK hp,gs,hk]
 obtain⟨s,h1,h2,h3⟩:=ca (f:=gi k) (λj (s:List (List Int))=>s.length=n/\∀v r,idx g.Arena.Next v=some r->idx s v=some (if v<j/\0<=pkL k v then[pkL k v] else r)) n (s:=g.Arena.Next) ⟨h.ln,λv r hr=>by
  have:=(ck hr).1
  rw[if_neg (by omega)];exact hr⟩ (λj s hj ⟨q1,q2⟩=>by
  have hkj:=lz hk (v:=(j:Int)) (by omega) (by omega)
  obtain⟨old,ho⟩:=cg (xs:=s) (i:=(j:Int)) (by omega) (by omega)
  obtain⟨s',hs,hl⟩:=cu (xs:=s) (i:=(j:Int)) [pkL k j] (by omega) (by omega)
  unfold gi
  rw[hkj,gs,ho,gs,hs,gs]
  by_cases e:0<=pkL k j
  · rw[decide_eq_true e,cond_true,gs]
    refine⟨_,rfl,by omega,λv r hr=>?_⟩
    rw[cC hs]
    by_cases ev:v=j
    · subst ev
      rw[if_pos rfl,if_pos ⟨by omega,e⟩]
    · rw[if_neg ev,q2 v r hr]
      by_cases ep:0<=pkL k v
      · by_cases el:v<j
        · rw[if_pos ⟨el,ep⟩,if_pos ⟨by omega,ep⟩]
        · rw[if_neg (λh=>el h.1),if_neg (λh=>by have:=h.1;omega)]
      · rw[if_neg (λh=>ep h.2),if_neg (λh=>ep h.2)]
  · rw[decide_eq_false e,cond_false,gs]
    refine⟨_,rfl,q1,λv r hr=>?_⟩
    rw[q2 v r hr]
    by_cases ep:0<=pkL k v
    · by_cases el:v<j
      · rw[if_pos ⟨el,ep⟩,if_pos ⟨by omega,ep⟩]
      · have:v≠j:=λev=>e (ev ▸ ep)
        rw[if_neg (λh=>el h.1),if_neg (λh=>by have:=h.1;omega)]
    · rw[if_neg (λh=>ep h.2),if_neg (λh=>ep h.2)])
 rw[h1,gs,bK]
 refine⟨s,rfl,h2,λv r hr=>?_⟩
 rw[h3 v r hr]
 have:=(ck hr).2
 have:=h.ln
 by_cases ep:0<=pkL k v
 · rw[if_pos ⟨by omega,ep⟩,if_pos ep]
 · rw[if_neg (λh=>ep h.2),if_neg ep]
theorem ul {g:Parity}{n:Nat}(hp:parityOk g=true) (hn:n=g.Prio.length){k:List Int}(hk:k.length=n) (hE:∀v,0<=pkL k v->(gI g).E v (pkL k v)):∃g',lm g k=some g'/\GOk g' n/\gI g'=Par.pickG (gI g) (pkL k):=by
 have h:=GOk.of hp
 rw[← hn]at h
 obtain⟨s,s1,s2,s3⟩:=pS hp hn hk
 unfold lm
 rw[s1,gs,appL (by rw[vP];have:=h.n256;omega) rfl,gs]
 have hrow:∀v r',idx s v=some r'->∃r,idx g.Arena.Next v=some r/\r'=if 0<=pkL k v then[pkL k v] else r:=λv r' hr'=>by
  obtain⟨v0,v1⟩:=ck hr'
  obtain⟨r,hr⟩:=cg (xs:=g.Arena.Next) (i:=v) v0 (by have:=h.ln;omega)
  refine⟨r,hr,?_⟩
  rw[s3 v r hr]at hr'
  exact(Option.some.inj hr').symm
 refine⟨_,rfl,⟨h.n256,h.lo,h.lp,s2,h.ow,λv r' hr'=>?_,h.pri⟩,?_⟩
 · obtain⟨r,hr,e⟩:=hrow v r' hr'
   by_cases ep:0<=pkL k v
   · rw[if_pos ep]at e
     have hE':pkL k v∈rowI g.Arena v:=hE v ep
     rw[eV hr]at hE'
     subst e
     refine⟨by simp,by simp,λu hu=>?_⟩
     rw[vL]at hu
     subst hu
     exact(h.row v r hr).2.2 _ hE'
   · rw[if_neg ep]at e
     subst e
     exact h.row v r' hr
 · unfold gI Par.pickG mkG
   dsimp only
   congr 1
   funext v u
   apply propext
   cases hr:idx g.Arena.Next v with
   | none=>
    have:idx s v=none:=by
     cases hs:idx s v with
     | none=>rfl
     | some r'=>
      obtain⟨r,hr',_⟩:=hrow v r' hs
      rw[hr]at hr';cases hr'
    rw[lE hr,lE (a:=⟨g.Arena.Owner,s⟩) this]
    simp
   | some r=>
    rw[eV hr,eV (a:=⟨g.Arena.Owner,s⟩) (s3 v r hr)]
    by_cases ep:0<=pkL k v
    · rw[if_pos ep,vL]
      have hE':pkL k v∈rowI g.Arena v:=hE v ep
      rw[eV hr]at hE'
      constructor
      · intro e;subst e;exact⟨hE',.inr rfl⟩
      · rintro⟨_,h | h⟩
        · omega
        · exact h.symm
    · rw[if_neg ep]
      exact⟨λhu=>⟨hu,.inl (by omega)⟩,λhu=>hu.1⟩
theorem ux {x:l7Game}{n:Nat}(wf:WfS x n) (hp:PriOk x.prio){B:List Bool}(hB:B.length=n) (hN:Par.NoDead (gS x) (In B)) (q:Bool):ka x B (b2i q)=some (decide (Par.Dom (gS x) (In B) q (In B))):=by
 have hn:=wf.n256
 obtain⟨R,r1,r2,r3⟩:=tY wf hp n B (2 ^ 64) hB hN (by have:=oo B;omega) (by omega)
 unfold ka
 rw[r1,gs]
 have hh:=Par.hold_iff (q:=q) r3
 have key:=kY (f:=fW B (b2i q) R) (r:=false) (λi b=> !(b&&(decide (In R (i:Int)) != !q))) (xs:=B) (n:=B.length) rfl (λi b hb=>by
  have hlt:=(it.1 hb).1
  unfold fW
  rw[bG,hb,gs,ez (B:=R) (by omega) (by omega),gs,mV]
  cases b <;> cases(decide (In R (i:Int)) != !q) <;> rfl)
 rw[key,gs]
 have:(B.zipIdx.all λp=> !(p.1&&(decide (In R (p.2:Int)) != !q)))=decide (Par.Dom (gS x) (In B) q (In B)):=by
  rw[vQ,decide_eq_true_iff,← hh,List.all_eq_true]
  constructor
  · intro ha v hv
    obtain⟨v0,v1⟩:=iG hB hv
    obtain⟨i,hi⟩:=eN v0
    subst hi
    have hv':idx B (i:Int)=some true:=hv
    rw[bG]at hv'
    have:=ha (true,i) (by rw[List.mem_zipIdx_iff_getElem?];exact hv')
    dsimp only at this
    by_cases hR:In R (i:Int)
    · rw[decide_eq_true hR]at this
      cases q with
      | true=>simp at this
      | false=>exact⟨λ_=>rfl,λ_=>hR⟩
    · rw[decide_eq_false hR]at this
      cases q with
      | true=>exact⟨λh=>absurd h hR,λh=>absurd h (by decide)⟩
      | false=>simp at this
  · rintro hm ⟨b,i⟩ hp
    rw[List.mem_zipIdx_iff_getElem?]at hp
    dsimp only at hp ⊢
    cases b with
    | false=>rfl
    | true=>
     have hv:In B (i:Int):=by unfold In;rw[bG];exact hp
     have:=hm _ hv
     by_cases hR:In R (i:Int)
     · rw[decide_eq_true hR,this.1 hR];rfl
     · rw[decide_eq_false hR]
       cases q with
       | true=>rfl
       | false=>exact absurd (this.2 rfl) hR
 rw[this]
 cases decide (Par.Dom (gS x) (In B) q (In B)) <;> rfl
end Go.Proofs.YtpcjbkgbnoocaaaGreat
set_option linter.unusedVariables false
set_option linter.unusedSimpArgs false
namespace Go.Proofs.YtpcjbkgbnoocaaaGreat
open Go Go.Wk Go.Proofs
open Classical
noncomputable def wB (W:Int->Prop) (v:Int):Bool:=decide (¬W v)
theorem tZ {W:Int->Prop}{v:Int}:wB W v=false↔W v:=by unfold wB;simp
theorem jz {n:Nat}{W:Int->Prop}{v:Int}(h:Xn n v):idx (wonL n W) v=some (b2i (wB W v)):=by
 obtain⟨h0,h1⟩:=h
 obtain⟨i,hi⟩:=eN h0
 subst hi
 rw[bG,qQ (by omega)];rfl
theorem nq {k:Int->Int}{v a b:Int}:Par.updF (Par.updF k v a) v b=Par.updF k v b:=by
 funext x
 unfold Par.updF
 by_cases e:x=v
 · rw[if_pos e,if_pos e]
 · rw[if_neg e,if_neg e,if_neg e]
theorem pD {k:Int->Int}{v a:Int}(h:k v=a):Par.updF k v a=k:=by
 funext x
 unfold Par.updF
 by_cases e:x=v
 · rw[if_pos e,e,h]
 · rw[if_neg e]
theorem so {a b:List Int}{n:Nat}(ha:a.length=n) (hb:b.length=n) (h:pkL a=pkL b):a=b:=by
 apply List.ext_getElem?
 intro i
 by_cases hi:i<n
 · have h1:=lz ha (v:=(i:Int)) (by omega) (by omega)
   have h2:=lz hb (v:=(i:Int)) (by omega) (by omega)
   rw[bG]at h1 h2
   rw[h1,h2,h]
 · rw[vR (by omega),vR (by omega)]
theorem qV {C:Int->Prop}:∀{row:List Int},(∃u,u∈row/\C u)->∃(i:Nat) (u:Int),row[i]? =some u/\C u/\∀(j:Nat) y,j<i->row[j]? =some y->¬C y
 | [],h=>by obtain⟨u,hu,_⟩:=h;cases hu
 | x::r,h=>by
  by_cases hx:C x
  · exact⟨0,x,rfl,hx,λj y hj=>absurd hj (Nat.not_lt_zero j)⟩
  · obtain⟨i,u,h1,h2,h3⟩:=qV (C:=C) (row:=r) (by
     obtain⟨u,hu,hc⟩:=h
     rcases List.mem_cons.1 hu with e | e
     · subst e;exact absurd hc hx
     · exact⟨u,e,hc⟩)
    refine⟨i+1,u,by simpa using h1,h2,λj y hj hy=>?_⟩
    cases j with
    | zero=>
     have:x=y:=by simpa using hy
     subst this;exact hx
    | succ j=>exact h3 j y (by omega) (by simpa using hy)
theorem sP {g:Parity}{n:Nat}(h:GOk g n){v:Int}(hv:Xn n v):idx g.Arena.Owner v=some (b2i ((gI g).own v)):=by
 obtain⟨o,ho⟩:=cg (xs:=g.Arena.Owner) (i:=v) hv.1 (by have:=h.lo;have:=hv.2;omega)
 rw[ho]
 show _=some (b2i (ownL g.Arena.Owner v))
 unfold ownL
 rw[ho]
 rcases h.ow v o ho with rfl | rfl <;> rfl
end Go.Proofs.YtpcjbkgbnoocaaaGreat
set_option linter.unusedVariables false
set_option linter.unusedSimpArgs false
namespace Go.Proofs.YtpcjbkgbnoocaaaGreat
open Go Go.Wk Go.Proofs
open Classical
theorem rD {n:Nat}{W:Int->Prop}(hn:n<=256) (q:Bool):∃B,eO (wonL n W) (b2i q)=some B/\B.length=n/\In B=Par.Rg (Xn n) (wB W) q:=by
 have hl:=mJ n W
 unfold eO
 rw[hl,cE (by omega) rfl,gs]
 obtain⟨s,h1,h2,h3⟩:=fillB (f:=fE (wonL n W) (b2i q)) (Par.Rg (Xn n) (wB W) q) n (s0:=sh n false) (by simp) (λj s hj hs=>by
  have hx:Xn n (j:Int):=⟨by omega,by omega⟩
  unfold fE
  rw[jz hx,gs,lL]
  have:(wB W (j:Int)==q)=decide (Par.Rg (Xn n) (wB W) q (j:Int)):=by
   rw[vQ,decide_eq_true_iff]
   unfold Par.Rg
   simp[hx]
  rw[this]) (λv hv=>hv.1)
 rw[h1,gs,bK]
 exact⟨s,rfl,h2,funext λv=>propext (h3 v)⟩
theorem tV {n:Nat}{W:Int->Prop}(hn:n<=256) (p:List Int) (q:Bool):∃L,jp ⟨wonL n W,p⟩ (b2i q)=some L/\L.length<=n/\(∀v,v∈L↔Par.Rg (Xn n) (wB W) q v):=by
 have hl:=mJ n W
 unfold jp
 dsimp only
 rw[hl,decide_eq_false (by omega),cond_false]
 obtain⟨s,h1,h2,h3⟩:=ca (f:=fv ⟨wonL n W,p⟩ (b2i q)) (λj (s:List Int)=>s.length<=j/\∀v,v∈s↔Par.Rg (Xn n) (wB W) q v/\v<j) n (s:=[]) ⟨by simp,λv=>⟨λh=>absurd h (by simp),λh=>by have:=h.1.1.1;omega⟩⟩ (λj s hj ⟨q1,q2⟩=>by
  have hx:Xn n (j:Int):=⟨by omega,by omega⟩
  unfold fv
  dsimp only
  rw[jz hx,gs,lL,app1 (by omega) rfl]
  cases hc:(wB W (j:Int)==q) with
  | true=>
   have hc:wB W (j:Int)=q:=by simpa using hc
   refine⟨_,rfl,by simp;omega,λv=>?_⟩
   rw[vS,q2,vL]
   constructor
   · rintro(⟨h1,h2⟩ | rfl)
     · exact⟨h1,by omega⟩
     · exact⟨⟨hx,hc⟩,by omega⟩
   · rintro⟨h1,h2⟩
     by_cases e:v=j
     · exact .inr e
     · exact .inl ⟨h1,by omega⟩
  | false=>
   have hc:¬wB W (j:Int)=q:=by simpa using hc
   refine⟨_,rfl,by omega,λv=>?_⟩
   rw[q2]
   constructor
   · rintro⟨h1,h2⟩
     exact⟨h1,by omega⟩
   · rintro⟨h1,h2⟩
     have:v≠j:=λe=>hc (by rw[← e];exact h1.2)
     exact⟨h1,by omega⟩)
 rw[h1,gs,bK]
 exact⟨s,rfl,h2,λv=>by rw[h3];exact⟨λh=>h.1,λh=>⟨h,h.1.2⟩⟩⟩
section
variable {g:Parity}{n:Nat}(hp:parityOk g=true) (hn:n=g.Prio.length){W:Int->Prop}(hW:Par.Sol (gI g) (Xn n) false W)
include hp hn hW
omit hW in
theorem vv {P:List (List Int)}(hP:PrevT g.Arena.Next n n P){k:List Int}(hk:k.length=n) (hI:Par.PInv (gI g) (Xn n) (wB W) (pkL k)){v:Int}(hv:Xn n v) (ho:(gI g).own v=wB W v){row:List Int}(hr:idx g.Arena.Next v=some row){i:Nat}{u:Int}(h1:row[i]? =some u)
 (h2:wB W u=wB W v/\Par.Dom (Par.pickG (gI g) (Par.updF (pkL k) v u)) (Par.Rg (Xn n) (wB W) (wB W v)) (wB W v) (Par.Rg (Xn n) (wB W) (wB W v)))
 (h3:∀(j:Nat) y,j<i->row[j]? =some y->¬(wB W y=wB W v/\Par.Dom (Par.pickG (gI g) (Par.updF (pkL k) v y)) (Par.Rg (Xn n) (wB W) (wB W v)) (wB W v) (Par.Rg (Xn n) (wB W) (wB W v))))
 {B:List Bool} (hB:B.length=n) (hBR:In B=Par.Rg (Xn n) (wB W) (wB W v)):
 ∃k',lh ⟨g.Arena.Owner,g.Prio,g.Arena.Next,P,k⟩ B v=some (u,k')/\k'.length=n/\pkL k'=Par.updF (pkL k) v u:=by
 have h:=GOk.of hp
 rw[← hn]at h
 have hnd:Par.NoDead (gI g) (Xn n):=kB h (lG hp)
 obtain⟨r1,r2,r3⟩:=h.row v row hr
 have hil:=(it.1 h1).1
 have hn256:=h.n256
 unfold lh
 obtain⟨o,w1,w2⟩:=cw (f:=ij ⟨g.Arena.Owner,g.Prio,g.Arena.Next,P,k⟩ B v) (λj (t:Int×List Int)=>t.1=(j:Int)/\j<=i/\t.2.length=n/\∃z,pkL t.2=Par.updF (pkL k) v z) (λ(t:Int×List Int)=>t.1=u/\t.2.length=n/\pkL t.2=Par.updF (pkL k) v u) (λ_=>False) i (λj t ⟨a1,a2,a3,z,a4⟩=>by
  obtain⟨j',t⟩:=t
  dsimp only at a1 a3 a4
  subst a1
  have hjl:j<row.length:=by omega
  have hy:row[j]? =some row[j]:=hV hjl
  generalize row[j]=y at hy
  obtain⟨y0,y1⟩:=r3 y (t0 hy)
  have hyX:Xn n y:=⟨y0,y1⟩
  have hyE:(gI g).E v y:=by show y∈rowI g.Arena v;rw[eV hr];exact t0 hy
  unfold ij
  dsimp only
  rw[hr,gs,decide_eq_true (show(j:Int)<(row.length:Int) by omega),cond_true,gs,bG,hy,gs,ez (B:=B) y0 (by omega),gs]
  have hBy:decide (In B y)=(wB W y==wB W v):=by
   rw[vQ,decide_eq_true_iff,hBR]
   unfold Par.Rg
   simp[hyX]
  have hw:IntKind.i64.wrap ((j:Int)+1)=((j+1:Nat):Int):=by rw[wr' (by omega) (by omega)];omega
  rw[hBy]
  cases hc:(wB W y==wB W v) with
  | false=>
   simp only[Bool.not_false,cond_true,hw]
   have hne:¬wB W y=wB W v:=by simpa using hc
   have:j≠i:=λe=>by subst e;rw[h1]at hy;cases hy;exact hne h2.1
   exact⟨_,rfl,by omega,rfl,by omega,a3,z,a4⟩
  | true=>
   have hwy:wB W y=wB W v:=by simpa using hc
   obtain⟨old,hold⟩:=cg (xs:=t) (i:=v) hv.1 (by have:=hv.2;omega)
   obtain⟨t',ht',htl⟩:=cu (xs:=t) (i:=v) y hv.1 (by have:=hv.2;omega)
   have hpk:pkL t'=Par.updF (pkL k) v y:=by rw[nT ht',a4,nq]
   have htn:t'.length=n:=by omega
   have hg:gS ⟨g.Arena.Owner,g.Prio,g.Arena.Next,P,t'⟩=Par.pickG (gI g) (Par.updF (pkL k) v y):=by rw[uw h P htn,hpk]
   have hN:Par.NoDead (gS ⟨g.Arena.Owner,g.Prio,g.Arena.Next,P,t'⟩) (In B):=by
    rw[hg,hBR]
    exact hI.noDead hnd hyE hyX hwy _
   have hh:=ux (h.wfS hP htn) h.pri hB hN (wB W v)
   rw[hg,hBR]at hh
   simp only[vJ,cond_false]
   rw[hold,gs,ht',gs,sP h hv,ho,gs,hh,gs]
   by_cases hd:Par.Dom (Par.pickG (gI g) (Par.updF (pkL k) v y)) (Par.Rg (Xn n) (wB W) (wB W v)) (wB W v) (Par.Rg (Xn n) (wB W) (wB W v))
   · rw[decide_eq_true hd,cond_true]
     have:¬j<i:=λhlt=>h3 j y hlt hy ⟨hwy,hd⟩
     have:j=i:=by omega
     subst this
     rw[h1]at hy;cases hy
     exact⟨_,rfl,rfl,htn,hpk⟩
   · rw[decide_eq_false hd,cond_false,hw]
     have:j≠i:=λe=>by subst e;rw[h1]at hy;cases hy;exact hd h2.2
     exact⟨_,rfl,by omega,rfl,by omega,htn,y,hpk⟩) (2 ^ 64) 0 (0,k) (by omega) ⟨rfl,by omega,hk,pkL k v,(pD rfl).symm⟩ (by omega)
 match o,w2 with
 | .inl t,w2=>
  obtain⟨b1,b2,b3⟩:=w2
  obtain⟨t1,t2⟩:=t
  dsimp only at b1 b2 b3
  subst b1
  rw[w1,gs,uB]
  exact⟨t2,rfl,b2,b3⟩
omit hW in
theorem uZ {k:List Int}(hk:k.length=n) (hI:Par.PInv (gI g) (Xn n) (wB W) (pkL k)){v:Int}(hv:Xn n v) (hkv:pkL k v= -1){row:List Int}(hr:idx g.Arena.Next v=some row){i:Nat}{u:Int}(h1:row[i]? =some u)
 (h2:wB W u=wB W v/\Par.Dom (Par.pickG (gI g) (Par.updF (pkL k) v u)) (Par.Rg (Xn n) (wB W) (wB W v)) (wB W v) (Par.Rg (Xn n) (wB W) (wB W v)))
 (h3:∀(j:Nat) y,j<i->row[j]? =some y->¬(wB W y=wB W v/\Par.Dom (Par.pickG (gI g) (Par.updF (pkL k) v y)) (Par.Rg (Xn n) (wB W) (wB W v)) (wB W v) (Par.Rg (Xn n) (wB W) (wB W v))))
 {L:List Int} (hL:∀v',v'∈L↔Par.Rg (Xn n) (wB W) (wB W v) v'):
 ∃k',cntM (em g (wonL n W) v L row) row.length 0 k=some (.inr k')/\k'.length=n/\pkL k'=Par.updF (pkL k) v u:=by
 have h:=GOk.of hp
 rw[← hn]at h
 have hnd:Par.NoDead (gI g) (Xn n):=kB h (lG hp)
 obtain⟨r1,r2,r3⟩:=h.row v row hr
 have hil:=(it.1 h1).1
 have hn256:=h.n256
 have hLe:(λv'=>v'∈L)=Par.Rg (Xn n) (wB W) (wB W v):=funext λv'=>propext (hL v')
 obtain⟨o,w1,w2⟩:=oB (f:=em g (wonL n W) v L row) (λj (t:List Int)=>j<=i/\t.length=n/\pkL t=pkL k) (λ_=>False) (λ(t:List Int)=>t.length=n/\pkL t=Par.updF (pkL k) v u) row.length (s:=k) ⟨by omega,hk,rfl⟩ (λj t hjl ⟨a2,a3,a4⟩=>by
  have hy:row[j]? =some row[j]:=hV hjl
  generalize row[j]=y at hy
  obtain⟨y0,y1⟩:=r3 y (t0 hy)
  have hyX:Xn n y:=⟨y0,y1⟩
  have hyE:(gI g).E v y:=by show y∈rowI g.Arena v;rw[eV hr];exact t0 hy
  unfold em
  rw[bG,hy,gs,jz hyX,gs,jz hv,gs]
  have hbne:(b2i (wB W y) !=b2i (wB W v))= !(wB W y==wB W v):=by unfold bne;rw[lL]
  rw[hbne]
  cases hc:(wB W y==wB W v) with
  | false=>
   simp only[Bool.not_false,cond_true]
   have hne:¬wB W y=wB W v:=by simpa using hc
   have:j≠i:=λe=>by subst e;rw[h1]at hy;cases hy;exact hne h2.1
   exact⟨_,rfl,by omega,a3,a4⟩
  | true=>
   have hwy:wB W y=wB W v:=by simpa using hc
   obtain⟨old,hold⟩:=cg (xs:=t) (i:=v) hv.1 (by have:=hv.2;omega)
   obtain⟨t',ht',htl⟩:=cu (xs:=t) (i:=v) y hv.1 (by have:=hv.2;omega)
   obtain⟨old',hold'⟩:=cg (xs:=t') (i:=v) hv.1 (by have:=hv.2;omega)
   obtain⟨t'',ht'',htl'⟩:=cu (xs:=t') (i:=v) (-1) hv.1 (by have:=hv.2;omega)
   have hpk:pkL t'=Par.updF (pkL k) v y:=by rw[nT ht',a4]
   have hpk':pkL t''=pkL k:=by rw[nT ht'',hpk,nq,pD hkv]
   have htn:t'.length=n:=by omega
   obtain⟨g',e1,e2,e3⟩:=ul hp hn htn (λx hx=>by
    rw[hpk]at hx ⊢
    unfold Par.updF at hx ⊢
    by_cases e:x=v
    · rw[if_pos e];subst e;exact hyE
    · rw[if_neg e]at hx ⊢
      exact(hI.pick x hx).2.2.1)
   rw[hpk]at e3
   have hN:Par.NoDead (gI g') (λv'=>v'∈L):=by
    rw[e3,hLe]
    exact hI.noDead hnd hyE hyX hwy _
   obtain⟨E,O,W',f1,f2,f3,f4,f5,f6⟩:=qM e2 (L:=L) (λv' hv'=>((hL v').1 hv').1) hN
   rw[e3,hLe]at f2
   have hh:=Par.hold_iff (q:=wB W v) f2
   simp only[vJ,cond_false]
   rw[hold,gs,ht',gs,e1,gs,f1,gs,gs]
   dsimp only
   have key:(bif !wB W v then((O.length:Int)==0) else((E.length:Int)==0))=decide (Par.Dom (Par.pickG (gI g) (Par.updF (pkL k) v y)) (Par.Rg (Xn n) (wB W) (wB W v)) (wB W v) (Par.Rg (Xn n) (wB W) (wB W v))):=by
    rw[vQ,decide_eq_true_iff,← hh]
    cases hq:wB W v with
    | false=>
     simp only[Bool.not_false,cond_true]
     rw[show(((O.length:Int)==0)=true)↔O=[] from by simp]
     constructor
     · intro e x hx
       refine⟨λ_=>trivial,λ_=>?_⟩
       apply Classical.byContradiction
       intro hn'
       have:=(f4 x).2 ⟨(hL x).2 (by rw[hq];exact hx),hn'⟩
       rw[e]at this;cases this
     · intro ha
       cases hO:O with
       | nil=>rfl
       | cons x xs=>
        obtain⟨c1,c2⟩:=(f4 x).1 (by rw[hO];exact List.mem_cons_self ..)
        exact absurd ((ha x (by have:=(hL x).1 c1;rwa [hq]at this)).2 trivial) c2
    | true=>
     simp only[vJ,cond_false]
     rw[show(((E.length:Int)==0)=true)↔E=[] from by simp]
     constructor
     · intro e x hx
       refine⟨λhw'=>?_,λh'=>absurd h' (by decide)⟩
       have:=(f3 x).2 hw'
       rw[e]at this;cases this
     · intro ha
       cases hE:E with
       | nil=>rfl
       | cons x xs=>
        have c1:=(f3 x).1 (by rw[hE];exact List.mem_cons_self ..)
        have:=(ha x (by have:=f2.sub x c1;rwa [hq]at this)).1 c1
        cases this
   have e0:∀(a b q:Bool) {β:Type} (F:Bool->Option β),(ds (bif (b2i q==0) then some a else some false) λp88=>ds (bif p88 then some true else ds (some (b2i q)) λx92=>ds (bif (x92==1) then some b else some false) λp99=>some p99) F)=F (bif !q then a else b):=by
    intro a b q β F
    cases q <;> cases a <;> cases b <;> rfl
   rw[e0,key]
   by_cases hd:Par.Dom (Par.pickG (gI g) (Par.updF (pkL k) v y)) (Par.Rg (Xn n) (wB W) (wB W v)) (wB W v) (Par.Rg (Xn n) (wB W) (wB W v))
   · rw[decide_eq_true hd,cond_true]
     have:¬j<i:=λhlt=>h3 j y hlt hy ⟨hwy,hd⟩
     have:j=i:=by omega
     subst this
     rw[h1]at hy;cases hy
     exact⟨_,rfl,htn,hpk⟩
   · rw[decide_eq_false hd,cond_false,hold',gs,ht'',gs]
     have:j≠i:=λe=>by subst e;rw[h1]at hy;cases hy;exact hd h2.2
     exact⟨_,rfl,by omega,by omega,hpk'⟩)
 match o,w2 with
 | .inr t,w2=>
  rcases w2 with ⟨hle,_⟩ | w2
  · omega
  · exact⟨t,w1,w2.1,w2.2⟩
omit hp hn hW in
theorem mj {n:Nat}(v:Int):pkL (sh n (-1)) v= -1:=by
 unfold pkL
 cases h:idx (sh n (-1:Int)) v with
 | none=>rfl
 | some x=>
  obtain⟨v0,v1⟩:=ck h
  rw[cG v0,vG]at h
  split at h
  · cases h;rfl
  · cases h
omit hW in
theorem rN {A:List Int}(hA:eY g=some A) (hAl:A.length<=256):ja g (sh n (-1))=some true:=by
 have h:=GOk.of hp
 rw[← hn]at h
 obtain⟨h1,h2,h3,h4,h5⟩:=cU hp
 have hO:kS g (sh n (-1))=some (g,true):=by
  unfold kS
  rw[jU,hp,gs]
  have hP:j7 g (sh n (-1))=some true:=by
   unfold j7
   rw[List.length_replicate,← hn]
   have:=cI (f:=gr g (sh n (-1))) (r:=false) (λ_:Int=>true) (xs:=sh n (-1)) (n:=n) (by simp) (λi x hx=>by
    unfold gr
    have hx':x= -1:=by
     rw[vG]at hx
     split at hx
     · cases hx;rfl
     · cases hx
    rw[bG,hx,gs,hx'];rfl)
   rw[this]
   simp only[bne_self_eq_false,cond_false,List.all_eq_true,implies_true,if_true,gs,bK]
  rw[hP]
  simp only[vJ,cond_false,gs]
  rw[rM (by have:=h.lo;have:=h.n256;omega),gs,rM (by omega),gs,List.length_replicate]
  obtain⟨s,e1,e2⟩:=ca (f:=g9 g (sh n (-1))) (λj (s:List (List Int))=>s=g.Arena.Next.take j) n (s:=[]) rfl (λj s hj hs=>by
   subst hs
   have hx:g.Arena.Next[j]? =some (g.Arena.Next[j]'(by have:=h.ln;omega)):=hV (by have:=h.ln;omega)
   generalize g.Arena.Next[j]'(by have:=h.ln;omega)=row at hx
   obtain⟨r1,_,_⟩:=h.row (j:Int) row (by rw[bG];exact hx)
   have hk:idx (sh n (-1:Int)) (j:Int)=some (-1):=by rw[bG,vG,if_pos hj]
   unfold g9
   rw[bG,hx,gs,rM (by omega),gs,hk,gs]
   simp only[show decide ((0:Int)<= -1)=false from rfl,cond_false,gs]
   rw[app1 (by rw[vO];omega) rfl,gs]
   refine⟨_,rfl,?_⟩
   rw[vT,hx];rfl)
  rw[e1,e2,gs,bK,List.take_of_length_le (by have:=h.ln;omega)]
 unfold ja
 rw[hO,gs]
 dsimp only
 rw[cond_true,hA,gs,gs]
 have hS:la A A=some true:=by
  unfold la
  have:=cI (f:=hU A A) (r:=false) (λ_:Int=>true) (xs:=A) (n:=A.length) rfl (λi x hx=>by
   unfold hU
   rw[bG,hx,gs,gs]
   simp)
  rw[this]
  simp only[bne_self_eq_false,cond_false,List.all_eq_true,implies_true,if_true,gs,bK]
 rw[hS];rfl
theorem r9 (hA:eY g=some (wonL n W)):∃k,jC g (sh n (-1))=some (⟨wonL n W,k⟩,true)/\iZ g (sh n (-1)) (wonL n W)=some ⟨wonL n W,k⟩/\k.length=n/\(∀v x,idx k v=some x->x= -1\/0<=x)/\Par.Ans (gI g) (Xn n) (wB W) (pkL k):=by
 have h:=GOk.of hp
 rw[← hn]at h
 have hn256:=h.n256
 have hwl:=mJ n W
 obtain⟨P,p1,p2⟩:=qn h
 obtain⟨B0,c1,c2,c3⟩:=rD (W:=W) hn256 false
 obtain⟨B1,d1,d2,d3⟩:=rD (W:=W) hn256 true
 have c1:eO (wonL n W) 0=some B0:=c1
 have d1:eO (wonL n W) 1=some B1:=d1
 unfold jC iZ
 rw[rN hp hn hA (by omega),gs,hA,p1,List.length_replicate,appL (by simp;omega) rfl]
 simp only[vJ,cond_false,gs,List.nil_append,List.length_replicate,hwl]
 obtain⟨s0,e1,e2⟩:=ca (f:=fp g (sh n (-1)) (wonL n W)) (λj (s:List Int)=>s=sh n (-1)) n (s:=sh n (-1)) rfl (λj s hj hs=>by
  subst hs
  have hk:idx (sh n (-1:Int)) (j:Int)=some (-1):=by rw[bG,vG,if_pos hj]
  unfold fp
  rw[hk]
  simp only[gs,show((-1:Int) != -1)=false from rfl,cond_false]
  rw[mw (by simp;omega),gs]
  refine⟨_,rfl,?_⟩
  apply List.ext_getElem?
  intro i
  rw[List.getElem?_set]
  simp only[vG,List.length_replicate]
  split
  · rename_i e;subst e;rw[if_pos hj]
  · rfl)
 subst e2
 rw[e1,gs,bK,c1,gs,d1,gs]
 obtain⟨s,t,f1,f2,rfl,f3,f4,f5,f6,f7⟩:=qa (f:=fj g (wonL n W) ⟨g.Arena.Owner,g.Prio,g.Arena.Next,P,sh n (-1)⟩ B0 B1) (g:=fi g (wonL n W)) (λj (s t:List Int)=>s=t/\s.length=n/\Par.PInv (gI g) (Xn n) (wB W) (pkL s)/\(∀i:Nat,j<=i->pkL s i= -1)/\(∀v,Xn n v->v<j->(gI g).own v=wB W v->0<=pkL s v)/\(∀v x,idx s v=some x->x= -1\/0<=x)) n (s:=sh n (-1)) (t:=sh n (-1)) ⟨rfl,by simp,Par.PInv.start hW (λv _=>tZ) (λv=>by rw[mj];decide),λi _=>mj _,λv hv hj=>by have:=hv.1;omega,λv x hx=> .inl (by rw[← qb hx];exact mj v)⟩ (λj s t hj ⟨e,g1,g2,g3,g4,g5⟩=>by
  subst e
  have hv:Xn n (j:Int):=⟨by omega,by omega⟩
  have hkj:=lz g1 hv.1 hv.2
  rw[g3 j (Nat.le_refl j)]at hkj
  unfold fj fi
  rw[hkj,jz hv,sP h hv]
  simp only[gs,show decide ((0:Int)<= -1)=false from rfl,cond_false]
  by_cases ho:(gI g).own (j:Int)=wB W (j:Int)
  · -- a pick
    obtain⟨row,hr⟩:=cg (xs:=g.Arena.Next) (i:=(j:Int)) (by omega) (by have:=h.ln;omega)
    obtain⟨u,u1,u2,u3,u4⟩:=g2.ex hv ho (by rw[g3 j (Nat.le_refl j)];decide)
    obtain⟨i,u,h1,h2,h3⟩:=qV (row:=row) (C:=λu=>wB W u=wB W (j:Int)/\Par.Dom (Par.pickG (gI g) (Par.updF (pkL s) j u)) (Par.Rg (Xn n) (wB W) (wB W j)) (wB W j) (Par.Rg (Xn n) (wB W) (wB W j))) ⟨u,by have:u∈rowI g.Arena j:=u1;rwa [eV hr]at this,u3,u4⟩
    have huE:(gI g).E (j:Int) u:=by show u∈rowI g.Arena j;rw[eV hr];exact t0 h1
    have huX:=(vB h huE).2
    obtain⟨L,l1,l2,l3⟩:=tV (W:=W) hn256 [] (wB W (j:Int))
    obtain⟨B,hB1,hB2,hB3⟩:∃B,(bif (b2i (wB W (j:Int))==1) then some B1 else some B0)=some B/\B.length=n/\In B=Par.Rg (Xn n) (wB W) (wB W j):=by
     cases hq:wB W (j:Int) with
     | true=>exact⟨B1,rfl,d2,d3⟩
     | false=>exact⟨B0,rfl,c2,c3⟩
    obtain⟨k',k1,k2,k3⟩:=vv hp hn p2 g1 g2 hv ho hr h1 h2 h3 hB2 hB3
    obtain⟨k'',m1,m2,m3⟩:=uZ hp hn g1 g2 hv (g3 j (Nat.le_refl j)) hr h1 h2 h3 l3
    have:k''=k':=so m2 k2 (by rw[m3,k3])
    subst this
    obtain⟨old,hold⟩:=cg (xs:=k'') (i:=(j:Int)) (by omega) (by omega)
    obtain⟨z,hz,hzl⟩:=cu (xs:=k'') (i:=(j:Int)) u (by omega) (by omega)
    have:z=k'':=so (n:=n) (by omega) k2 (by rw[nT hz,k3,nq])
    subst this
    have e1':(b2i (wB W (j:Int)) !=b2i ((gI g).own (j:Int)))=false:=by rw[ho];simp
    have e2':(b2i ((gI g).own (j:Int)) !=b2i (wB W (j:Int)))=false:=by rw[ho];simp
    rw[e1',e2',cond_false,cond_false,gs,cond_false,hB1,gs,k1,gs]
    dsimp only
    rw[hold,gs,hz,gs,l1,gs,hr,gs,m1,gs,bK]
    refine⟨_,_,rfl,rfl,rfl,k2,?_,λi' hi'=>?_,λv hvx hvj hvo=>?_,λv x hx=>?_⟩
    · rw[k3];exact g2.step hv ho huE huX h2.1 h2.2
    · rw[k3]
      unfold Par.updF
      rw[if_neg (by omega)]
      exact g3 i' (by omega)
    · rw[k3]
      unfold Par.updF
      by_cases e:v=j
      · rw[if_pos e];exact huX.1
      · rw[if_neg e];exact g4 v hvx (by omega) hvo
    · have:=qb hx
      rw[k3]at this
      unfold Par.updF at this
      by_cases e:v=j
      · rw[if_pos e]at this;rw[← this];exact .inr huX.1
      · rw[if_neg e]at this
        obtain⟨v0,v1⟩:=ck hx
        have hs:=lz g1 v0 (by omega)
        rw[this]at hs
        exact g5 v x hs
  · have e1':(b2i (wB W (j:Int)) !=b2i ((gI g).own (j:Int)))=true:=by
     unfold bne;rw[lL]
     cases hx:wB W (j:Int) <;> cases hy:(gI g).own (j:Int) <;> simp_all
    have e2':(b2i ((gI g).own (j:Int)) !=b2i (wB W (j:Int)))=true:=by
     unfold bne;rw[lL]
     cases hx:wB W (j:Int) <;> cases hy:(gI g).own (j:Int) <;> simp_all
    rw[e1',e2',cond_true,cond_true,gs,cond_true]
    refine⟨_,_,rfl,rfl,rfl,g1,g2,λi' hi'=>g3 i' (by omega),λv hvx hvj hvo=>?_,g5⟩
    have:v≠j:=λe=>ho (by rw[← e];exact hvo)
    exact g4 v hvx (by omega) hvo)
 rw[f1,f2,gs,gs,bK,bK,appL (by simp;omega) rfl,gs,List.nil_append]
 exact⟨s,rfl,rfl,f3,f7,f4.ans λv hv hvo=>f6 v hv hv.2 hvo⟩
end
end Go.Proofs.YtpcjbkgbnoocaaaGreat
set_option linter.unusedVariables false
set_option linter.unusedSimpArgs false
namespace Go.Proofs.YtpcjbkgbnoocaaaGreat
open Go Go.Wk Go.Proofs
open Classical
theorem qX {g:Parity}{n:Nat}(h:GOk g n):kR g.Arena=some (sh n (-1)):=by
 have hn:=h.n256
 unfold kR
 rw[h.lo,cE (by omega) rfl,gs,List.length_replicate]
 obtain⟨s,h1,h2,h3⟩:=fill (f:=jN) (λ_=> -1) n (s0:=sh n 0) (by simp) (λj s hj hs=>rfl)
 rw[h1,gs,bK]
 congr 1
 apply List.ext_getElem?
 intro i
 rw[vG]
 by_cases hi:i<n
 · rw[if_pos hi,← bG];exact h3 i hi
 · rw[if_neg hi];exact vR (by omega)
theorem rq {n:Nat}(hn:n<=256):lu (n:Int)=some (sh n (-1)):=by
 unfold lu
 have hr:rng (n:Int)=some ():=by
  unfold rng
  first
   | rfl
   | rw[if_pos (by omega)]
 rw[hr,gs,show Int.toNat ((n:Int)-0)=n from by omega]
 obtain⟨s,h1,h2⟩:=ca (f:=ig) (λj (s:List Int)=>s=sh j (-1)) n (s:=[]) rfl (λj s hj hs=>by
  subst hs
  unfold ig
  rw[app1 (by simp;omega) rfl,gs]
  exact⟨_,rfl,by rw[List.replicate_succ']⟩)
 rw[h1,gs,bK,h2]
structure Solv (g:Parity) (W:Int->Prop) (k:List Int):Prop where
 sol:Par.Sol (gI g) (Xn g.Prio.length) false W
 len:k.length=g.Prio.length
 pick:∀v x,idx k v=some x->x= -1\/0<=x
 ans:Par.Ans (gI g) (Xn g.Prio.length) (wB W) (pkL k)
theorem qE {g:Parity}(hp:parityOk g=true):∃W k,jX g=some ⟨wonL g.Prio.length W,k⟩/\j9 g=some ⟨wonL g.Prio.length W,k⟩/\eY g=some (wonL g.Prio.length W)/\eW g=some (wonL g.Prio.length W)/\Solv g W k:=by
 have h:=GOk.of hp
 obtain⟨W,a1,a2,a3⟩:=tt h (lG hp)
 obtain⟨k,k1,k2,k3,k4,k5⟩:=r9 hp rfl a3 a1
 refine⟨W,k,?_,?_,a1,a2,a3,k3,k4,k5⟩
 · unfold jX
   rw[jU,hp,gs,vJ,cond_false,rq h.n256,gs,k1];rfl
 · unfold j9
   rw[po,hp,gs,vJ,cond_false,qX h,gs,a2,gs,k2];rfl
end Go.Proofs.YtpcjbkgbnoocaaaGreat
set_option linter.unusedVariables false
set_option linter.unusedSimpArgs false
namespace Go.Proofs.YtpcjbkgbnoocaaaGreat
open Go Go.Wk Go.Proofs
def placeOf (xs:List Int) (v:Int):Int:=match xs.findIdx? (λx=>v==x) with | some i=>(i:Int) | none=> -1
theorem sY {xs:List Int}{v:Int}(h:v∉xs):placeOf xs v= -1:=by
 unfold placeOf
 have:xs.findIdx? (λx=>v==x)=none:=by
  rw[List.findIdx?_eq_none_iff]
  intro x hx
  simp only[beq_eq_false_iff_ne]
  exact λe=>h (e ▸ hx)
 rw[this]
end Go.Proofs.YtpcjbkgbnoocaaaGreat
set_option linter.unusedVariables false
set_option linter.unusedSimpArgs false
namespace Go.Proofs.YtpcjbkgbnoocaaaGreat
open Go Go.Wk Go.Proofs
theorem qm (xs:List Int) (v:Int):jV xs v=some (placeOf xs v):=by
 unfold jV placeOf
 rw[en (f:=gb xs v) (λx=>v==x) (λi=>(i:Int)) (xs:=xs) (λi x hx=>by
  unfold gb
  rw[bG,hx,gs,show(x==v)=(v==x) from BEq.comm]
  cases v==x <;> rfl),gs]
 cases xs.findIdx? (λx=>v==x) <;> rfl
end Go.Proofs.YtpcjbkgbnoocaaaGreat
set_option linter.unusedVariables false
set_option linter.unusedSimpArgs false
namespace Go.Proofs.YtpcjbkgbnoocaaaGreat
open Go Go.Wk Go.Proofs
theorem rF (xs:List Int) (v:Int):cn xs v=some (placeOf xs v):=fU xs v
end Go.Proofs.YtpcjbkgbnoocaaaGreat
set_option linter.unusedVariables false
set_option linter.unusedSimpArgs false
namespace Go.Proofs.YtpcjbkgbnoocaaaGreat
open Go Go.Wk Go.Proofs
def addN (xs:List Int) (u:Int):List Int:=if u∈xs then xs else xs++[u]
theorem sT {xs:List Int}{u:Int}(h:u∉xs):placeOf (xs++[u]) u=(xs.length:Nat):=by
 unfold placeOf
 have:(xs++[u]).findIdx? (λx=>u==x)=some xs.length:=by
  rw[List.findIdx?_append]
  have h1:xs.findIdx? (λx=>u==x)=none:=by
   rw[List.findIdx?_eq_none_iff]
   intro x hx
   simp only[beq_eq_false_iff_ne]
   exact λe=>h (e ▸ hx)
  rw[h1]
  simp
 rw[this]
def Names (n:Nat) (xs:List Int):Prop:=xs.Nodup/\∀x∈xs,0<=x/\x<n
theorem Names.len {n:Nat}{xs:List Int}(h:Names n xs):xs.length<=n:=eH n xs h.1 h.2
theorem Names.add {n:Nat}{xs:List Int}(h:Names n xs){u:Int}(u0:0<=u) (u1:u<n):Names n (addN xs u)/\∀(k:Nat) v,xs[k]? =some v->(addN xs u)[k]? =some v:=by
 unfold addN
 by_cases hu:u∈xs
 · rw[if_pos hu];exact⟨h,λk v hk=>hk⟩
 · rw[if_neg hu]
   refine⟨⟨?_,λx hx=>?_⟩,λk v hk=>?_⟩
   · rw[List.nodup_append]
     refine⟨h.1,by simp,λa ha c hc e=>?_⟩
     rw[vL]at hc
     exact hu (by rw[← hc,← e];exact ha)
   · rw[vS,vL]at hx
     rcases hx with hx | rfl
     · exact h.2 x hx
     · exact⟨u0,u1⟩
   · rw[List.getElem?_append_left (it.1 hk).1];exact hk
end Go.Proofs.YtpcjbkgbnoocaaaGreat
set_option linter.unusedVariables false
set_option linter.unusedSimpArgs false
namespace Go.Proofs.YtpcjbkgbnoocaaaGreat
open Go Go.Wk Go.Proofs
theorem vn {x k:Place}(h:(x.At==k.At&&x.Record==k.Record)=true):x=k:=by
 rw[Bool.and_eq_true,beq_iff_eq,beq_iff_eq]at h
 cases x
 cases k
 simp only at h
 rw[h.1,h.2]
def locR (K:List Place) (k:Place):Option Nat:=K.findIdx? (λx=>x.At==k.At&&x.Record==k.Record)
def addR (K:List Place) (k:Place):List Place:=match locR K k with | some _=>K | none=>K++[k]
def atR (K:List Place) (k:Place):Int:=match locR K k with | some i=>(i:Int) | none=>(K.length:Int)
theorem qN (K:List Place) (k:Place):K.length<=(addR K k).length/\(addR K k).length<=K.length+1:=by
 unfold addR
 cases locR K k <;> simp
theorem ro {K:List Place}{k:Place}{i:Nat}{v:Place}(h:K[i]? =some v):(addR K k)[i]? =some v:=by
 unfold addR
 cases locR K k with
 | some _=>exact h
 | none=>
  have:=(it.1 h).1
  dsimp only
  rw[List.getElem?_append_left this];exact h
theorem tJ {K:List Place}{k x:Place}(h:x∈addR K k):x∈K\/x=k:=by
 unfold addR at h
 cases e:locR K k with
 | some _=>rw[e]at h;exact .inl h
 | none=>rw[e]at h;simpa using h
theorem tb {K:List Place}{k:Place}{i:Nat}(h:locR K k=some i):K[i]? =some k:=by
 unfold locR at h
 obtain⟨h1,h2,h3⟩:=List.findIdx?_eq_some_iff_getElem.1 h
 have:k=K[i]:=(vn h2).symm
 rw[hV h1,← this]
theorem sV {K:List Place}{k:Place}(h:locR K k=none):k∉K:=λhm=>by
 unfold locR at h
 rw[List.findIdx?_eq_none_iff]at h
 have:=h k hm
 simp at this
theorem uI (K:List Place) (k:Place):0<=atR K k/\(addR K k)[(atR K k).toNat]? =some k:=by
 unfold atR addR
 cases h:locR K k with
 | none=>exact⟨by dsimp only;omega,by dsimp only;rw[Int.toNat_natCast];simp⟩
 | some i=>exact⟨by dsimp only;omega,by dsimp only;rw[Int.toNat_natCast];exact tb h⟩
theorem sc {K:List Place}(hn:K.Nodup) (k:Place):(addR K k).Nodup:=by
 unfold addR
 cases h:locR K k with
 | none=>
  dsimp only
  refine List.nodup_append.2 ⟨hn,by simp,λa ha b hb e=>?_⟩
  rw[vL]at hb
  exact sV h (hb ▸ e ▸ ha)
 | some i=>exact hn
def rowR (ky:Nat->Place) (K:List Place):Nat->List Place×List Int
 | 0=>(K,[])
 | j+1=>(addR (rowR ky K j).1 (ky j),(rowR ky K j).2++[atR (rowR ky K j).1 (ky j)])
structure RowR (ky:Nat->Place) (K:List Place) (j:Nat) (K':List Place) (row:List Int):Prop where
 pre:∀(i:Nat) v,K[i]? =some v->K'[i]? =some v
 len:K.length<=K'.length
 le:K'.length<=K.length+j
 nod:K.Nodup->K'.Nodup
 rl:row.length=j
 at_:∀i:Nat,i<j->∃x,row[i]? =some x/\0<=x/\K'[x.toNat]? =some (ky i)
 mem:∀v∈K',v∈K\/∃i:Nat,i<j/\v=ky i
theorem kA (ky:Nat->Place) (K:List Place):∀j,RowR ky K j (rowR ky K j).1 (rowR ky K j).2
 | 0=>⟨λ_ _ h=>h,Nat.le_refl _,Nat.le_refl _,id,rfl,λi hi=>absurd hi (Nat.not_lt_zero i),λv h=> .inl h⟩
 | j+1=>by
  have h:=kA ky K j
  unfold rowR
  generalize rowR ky K j=F at *
  have hl:=qN F.1 (ky j)
  obtain⟨a0,a1⟩:=uI F.1 (ky j)
  refine⟨λi v hv=>ro (h.pre i v hv),Nat.le_trans h.len hl.1,?_,λhn=>sc (h.nod hn) _,by simp[h.rl],λi hi=>?_,λv hv=>?_⟩
  · have:=h.le;dsimp only;omega
  · by_cases e:i=j
    · subst e
      refine⟨_,by rw[← h.rl];simp,a0,a1⟩
    · obtain⟨x,x1,x2,x3⟩:=h.at_ i (by omega)
      have hix:=(it.1 x1).1
      exact⟨x,by rw[List.getElem?_append_left hix];exact x1,x2,ro x3⟩
  · rcases tJ hv with hv | hv
    · rcases h.mem v hv with k | ⟨i,hi,e⟩
      · exact .inl k
      · exact .inr ⟨i,by omega,e⟩
    · exact .inr ⟨j,by omega,hv⟩
end Go.Proofs.YtpcjbkgbnoocaaaGreat
set_option linter.unusedVariables false
set_option linter.unusedSimpArgs false
namespace Go.Proofs.YtpcjbkgbnoocaaaGreat
open Go Go.Wk Go.Proofs
def giveI (ps:List Pair) (v i:Int):Bool:=match idx ps i with | some p=>decide (v∈p.Give) | none=>false
def askI (ps:List Pair) (v i:Int):Bool:=match idx ps i with | some p=>decide (v∈p.Ask) | none=>false
def nextR (ps:List Pair) (rc:List Int) (v:Int):List Int:=rc.filter (giveI ps v)++rc.filter λi=> !giveI ps v i
def lastJ (f:Int->Bool) (xs:List Int):Nat->Int
 | 0=> -1
 | j+1=>bif (match xs[j]? with | some x=>f x | none=>false) then(j:Int) else lastJ f xs j
def prioR (ps:List Pair) (rc:List Int) (v:Int):Int:=
 bif decide (lastJ (askI ps v) rc rc.length<0)&&decide (lastJ (giveI ps v) rc rc.length<0) then 0
 else bif decide (lastJ (giveI ps v) rc rc.length<lastJ (askI ps v) rc rc.length) then 2 * lastJ (askI ps v) rc rc.length+1
 else 2 * lastJ (giveI ps v) rc rc.length+2
theorem ll (f:Int->Bool) (xs:List Int):∀j:Nat,-1<=lastJ f xs j/\lastJ f xs j<j
 | 0=>by unfold lastJ;omega
 | j+1=>by
  have:=ll f xs j
  unfold lastJ
  cases(match xs[j]? with | some x=>f x | none=>false) with
  | true=>rw[cond_true];omega
  | false=>rw[cond_false];omega
theorem tm (ps:List Pair){rc:List Int}(v:Int) (h:rc.length<=4):inR 41 (prioR ps rc v)=true:=by
 have a:=ll (askI ps v) rc rc.length
 have g:=ll (giveI ps v) rc rc.length
 rw[gk]
 unfold prioR
 generalize lastJ (askI ps v) rc rc.length=x at *
 generalize lastJ (giveI ps v) rc rc.length=y at *
 by_cases h1:x<0
 · by_cases h2:y<0
   · simp[h1,h2]
   · by_cases h3:y<x
     · omega
     · simp only[h1,h2,h3,decide_true,decide_false,Bool.and_false,cond_false];omega
 · by_cases h3:y<x
   · simp only[h1,h3,decide_true,decide_false,Bool.false_and,cond_false,cond_true];omega
   · simp only[h1,h3,decide_false,Bool.false_and,cond_false];omega
theorem oE (p:Int->Bool):∀xs:List Int,(xs.filter p).length+(xs.filter λx=> !p x).length=xs.length
 | []=>rfl
 | x::xs=>by
  have:=oE p xs
  simp only[List.filter_cons]
  cases p x <;> simp <;> omega
theorem qZ (ps:List Pair){rc:List Int}{k:Nat}(v:Int) (hl:rc.length=k) (hr:∀x∈rc,0<=x/\x<(k:Int)):(nextR ps rc v).length=k/\∀x∈nextR ps rc v,0<=x/\x<(k:Int):=by
 unfold nextR
 refine⟨by rw[vK,oE,hl],λx hx=>?_⟩
 rcases vS.1 hx with h | h
 · exact hr x (List.mem_filter.1 h).1
 · exact hr x (List.mem_filter.1 h).1
structure VOk (n k:Nat) (v:Place):Prop where
 a0:0<=v.At
 a1:v.At<(n:Int)
 rl:v.Record.length=k
 rin:∀x∈v.Record,0<=x/\x<(k:Int)
def kyR (ar rc:List Int) (i:Nat):Place:=⟨ar.getD i 0,rc⟩
structure RowP (P:List Place) (ar rc r:List Int):Prop where
 asc:Asc r
 len:r.length=ar.length
 to:∀y∈r,0<=y/\∃u∈ar,P[y.toNat]? =some ⟨u,rc⟩
 has:∀u∈ar,∃y∈r,0<=y/\P[y.toNat]? =some ⟨u,rc⟩
theorem RowP.mono {P P':List Place}{ar rc r:List Int}(h:RowP P ar rc r) (hp:∀(i:Nat) v,P[i]? =some v->P'[i]? =some v):RowP P' ar rc r:=
 ⟨h.asc,h.len,λy hy=>by
  obtain⟨a,u,b,c⟩:=h.to y hy
  exact⟨a,u,b,hp _ _ c⟩,λu hu=>by
  obtain⟨y,a,b,c⟩:=h.has u hu
  exact⟨y,a,b,hp _ _ c⟩⟩
theorem sa {ar rc:List Int}{P:List Place}(hn:ar.Nodup):(rowR (kyR ar rc) P ar.length).2.Nodup:=by
 have r:=kA (kyR ar rc) P ar.length
 generalize rowR (kyR ar rc) P ar.length=G at *
 have hrl:=r.rl
 refine List.pairwise_iff_getElem.2 λi j hi hj hij e=>?_
 obtain⟨x,x1,_,x3⟩:=r.at_ i (by omega)
 obtain⟨y,y1,_,y3⟩:=r.at_ j (by omega)
 rw[hV hi]at x1
 rw[hV hj]at y1
 have hxy:x=y:=by rw[← Option.some.inj x1,← Option.some.inj y1];exact e
 subst hxy
 rw[x3]at y3
 have:=congrArg Place.At (Option.some.inj y3)
 simp only[kyR,List.getD_eq_getElem?_getD,hV (show i<ar.length by omega),hV (show j<ar.length by omega),Option.getD_some]at this
 exact(List.pairwise_iff_getElem.1 hn) i j (by omega) (by omega) hij this
theorem uE {ar rc:List Int}{P:List Place}{S:List Int}(hS:Asc S) (hl:S.length=ar.length) (hm:∀y,y∈S↔y∈(rowR (kyR ar rc) P ar.length).2):RowP (rowR (kyR ar rc) P ar.length).1 ar rc S:=by
 have r:=kA (kyR ar rc) P ar.length
 generalize rowR (kyR ar rc) P ar.length=G at *
 have hrl:=r.rl
 have hky:∀i,i<ar.length->kyR ar rc i=⟨ar.getD i 0,rc⟩/\ar.getD i 0∈ar:=λi hi=>⟨rfl,by
  rw[List.getD_eq_getElem?_getD,hV hi]
  exact List.getElem_mem hi⟩
 refine⟨hS,hl,λy hy=>?_,λu hu=>?_⟩
 · obtain⟨i,hi⟩:=List.getElem?_of_mem ((hm y).1 hy)
   have hlt:=(it.1 hi).1
   obtain⟨x,x1,x2,x3⟩:=r.at_ i (by omega)
   rw[hi]at x1
   cases x1
   obtain⟨k1,k2⟩:=hky i (by omega)
   exact⟨x2,_,k2,by rw[x3,k1]⟩
 · obtain⟨i,hi⟩:=List.getElem?_of_mem hu
   have hlt:=(it.1 hi).1
   obtain⟨x,x1,x2,x3⟩:=r.at_ i hlt
   refine⟨x,(hm x).2 (t0 x1),x2,?_⟩
   rw[x3]
   unfold kyR
   rw[List.getD_eq_getElem?_getD,hi];rfl
structure RecS (a:Arena) (ps:List Pair) (st:Place) (P:List Place) (i:Nat) (O:List Int) (N:List (List Int)) (Q:List Int):Prop where
 nod:P.Nodup
 zero:P[0]? =some st
 il:i<=P.length
 ol:O.length=i
 nl:N.length=i
 ql:Q.length=i
 inn:∀v∈P,VOk a.Owner.length ps.length v
 row:∀(j:Nat) v,j<i->P[j]? =some v->O[j]? =idx a.Owner v.At/\Q[j]? =some (prioR ps v.Record v.At)/\∃r ar,N[j]? =some r/\idx a.Next v.At=some ar/\RowP P ar (nextR ps v.Record v.At) r
theorem RecS.init {a:Arena}{ps:List Pair}{st:Place}(h:VOk a.Owner.length ps.length st):RecS a ps st [st] 0 [] [] []:=
 ⟨by simp,rfl,by simp,rfl,rfl,rfl,λv hv=>by rw[vL.1 hv];exact h,λj v hj=>absurd hj (Nat.not_lt_zero j)⟩
theorem RecS.step {a:Arena}{ps:List Pair}{st:Place}{P:List Place}{i:Nat}{O:List Int}{N:List (List Int)}{Q:List Int}(h:RecS a ps st P i O N Q){v:Place}(hv:P[i]? =some v){ar:List Int}(har:idx a.Next v.At=some ar) (hin:∀u∈ar,0<=u/\u<(a.Owner.length:Int)){o:Int}(ho:idx a.Owner v.At=some o){S:List Int}
 (hS:Asc S) (hSl:S.length=ar.length) (hSm:∀y,y∈S↔y∈(rowR (kyR ar (nextR ps v.Record v.At)) P ar.length).2):
 RecS a ps st (rowR (kyR ar (nextR ps v.Record v.At)) P ar.length).1 (i+1) (O++[o]) (N++[S]) (Q++[prioR ps v.Record v.At]):=by
 have hP:=uE hS hSl hSm
 have r:=kA (kyR ar (nextR ps v.Record v.At)) P ar.length
 have hvo:=h.inn v (t0 hv)
 have hn:=qZ ps v.At hvo.rl hvo.rin
 have hky:∀x,x<ar.length->VOk a.Owner.length ps.length (kyR ar (nextR ps v.Record v.At) x):=λx hx=>by
  have hm:ar.getD x 0∈ar:=by
   rw[List.getD_eq_getElem?_getD,hV hx]
   exact List.getElem_mem hx
  obtain⟨u0,u1⟩:=hin _ hm
  exact⟨u0,u1,hn.1,hn.2⟩
 generalize rowR (kyR ar (nextR ps v.Record v.At)) P ar.length=G at *
 have hiP:=(it.1 hv).1
 have h1:=h.ol
 have h2:=h.nl
 have h3:=h.ql
 have hlen:=r.len
 refine⟨r.nod h.nod,r.pre 0 _ h.zero,by omega,by simp[h1],by simp[h2],by simp[h3],λu hu=>?_,λj u hj hu=>?_⟩
 · rcases r.mem u hu with hm | ⟨x,hx,e⟩
   · exact h.inn u hm
   · rw[e];exact hky x hx
 · by_cases e:j=i
   · subst e
     have huv:u=v:=by
      have:=r.pre j v hv
      rw[hu]at this
      exact Option.some.inj this
     subst huv
     refine⟨by rw[← h1,ho];simp,by rw[← h3];simp,S,ar,by rw[← h2];simp,har,hP⟩
   · have hj':j<i:=by omega
     have hjP:P[j]? =some (P[j]'(by omega)):=hV (by omega)
     have huv:u=P[j]'(by omega):=by
      have:=r.pre j _ hjP
      rw[hu]at this
      exact Option.some.inj this
     rw[← huv]at hjP
     obtain⟨b1,b2,rr,ar',b3,b4,b5⟩:=h.row j u hj' hjP
     exact⟨by rw[List.getElem?_append_left (by omega)];exact b1,by rw[List.getElem?_append_left (by omega)];exact b2,rr,ar',by rw[List.getElem?_append_left (by omega)];exact b3,b4,b5.mono r.pre⟩
structure RecG (a:Arena) (ps:List Pair) (st:Place) (P:List Place) (g:Parity):Prop where
 game:RecS a ps st P P.length g.Arena.Owner g.Arena.Next g.Prio
 le:P.length<=256
theorem RecG.ok {a:Arena}{ps:List Pair}{st:Place}{P:List Place}{g:Parity}(h:RecG a ps st P g) (ha:arenaOk a=true) (hO:∀o∈a.Owner,inR 2 o=true) (hN:∀(i:Nat) row,a.Next[i]? =some row->1<=row.length/\row.length<=16) (hk:ps.length<=4):parityOk g=true:=by
 have hr:=h.game
 have h0:=(it.1 hr.zero).1
 have h1:=hr.ol
 have h2:=hr.nl
 have h3:=hr.ql
 have hle:=h.le
 have hv:∀j:Nat,j<P.length->∃v,P[j]? =some v:=λj hj=>⟨_,hV hj⟩
 refine tc (by omega) (by omega) (by omega) (by omega) (λrow hrow=>?_) (λo ho=>?_) λx hx=>?_
 · obtain⟨j,hj⟩:=List.getElem?_of_mem hrow
   have hlt:=(it.1 hj).1
   obtain⟨v,hjv⟩:=hv j (by omega)
   obtain⟨_,_,r,ar,b3,b4,b5⟩:=hr.row j v (by omega) hjv
   rw[hj]at b3
   cases b3
   have v0:=(gF b4).1
   rw[cG v0]at b4
   obtain⟨l1,l2⟩:=hN _ _ b4
   have hl:=b5.len
   refine⟨by omega,by omega,eh.2 ⟨λy hy=>?_,b5.asc⟩⟩
   obtain⟨y0,u,_,hu⟩:=b5.to y hy
   have:=(it.1 hu).1
   omega
 · obtain⟨j,hj⟩:=List.getElem?_of_mem ho
   have hlt:=(it.1 hj).1
   obtain⟨v,hjv⟩:=hv j (by omega)
   obtain⟨b1,_⟩:=hr.row j v (by omega) hjv
   rw[hj]at b1
   have v0:=(gF b1.symm).1
   rw[cG v0]at b1
   exact hO o (t0 b1.symm)
 · obtain⟨j,hj⟩:=List.getElem?_of_mem hx
   have hlt:=(it.1 hj).1
   obtain⟨v,hjv⟩:=hv j (by omega)
   obtain⟨_,b2,_⟩:=hr.row j v (by omega) hjv
   rw[hj]at b2
   cases b2
   exact tm ps v.At (by have:=(hr.inn v (t0 hjv)).rl;omega)
def firstR (k:Nat):List Int:=(List.range k).map Int.ofNat
end Go.Proofs.YtpcjbkgbnoocaaaGreat
set_option linter.unusedVariables false
set_option linter.unusedSimpArgs false
namespace Go.Proofs.YtpcjbkgbnoocaaaGreat
open Go Go.Wk Go.Proofs
theorem has16 (row:List Int) (v:Int):jb row v=some (decide (v∈row)):=by
 unfold jb
 rw[cI (f:=ib row v) (r:=true) (xs:=row) (λx=> !(x==v)) rfl (λi x hx=>by
  unfold ib
  rw[bG,hx,gs]
  cases x==v <;> rfl)]
 by_cases h:v∈row
 · rw[if_neg,decide_eq_true h];rfl
   rw[List.all_eq_true]
   intro hall
   have:=hall v h
   simp at this
 · rw[if_pos,decide_eq_false h];rfl
   rw[List.all_eq_true]
   intro x hx
   simp only[Bool.not_eq_true',beq_eq_false_iff_ne,ne_eq]
   exact λe=>h (e ▸ hx)
theorem same16 (p0 p1:List Int):fC p0 p1=some (decide (p0=p1)):=by
 unfold fC
 by_cases h:p0.length=p1.length
 · rw[show((p0.length:Int) !=(p1.length:Int))=false from by rw[h];simp,cond_false]
   rw[sQ (f:=dK p0 p1) (r:=false) (λx y=>decide (x=y)) h (λi x y hx hy=>by
    unfold dK
    rw[bG,bG,hx,hy,gs,gs]
    by_cases e:x=y
    · subst e;simp
    · have e':(x==y)=false:=by simp[e]
      simp[bne,e',e])]
   rw[mg h]
   cases decide (p0=p1) <;> rfl
 · rw[show((p0.length:Int) !=(p1.length:Int))=true from by simp only[bne_iff_ne,ne_eq];omega,cond_true,decide_eq_false (λe=>h (by rw[e]))]
def locPI (P:List Place) (k:Place):Int:=match locR P k with | some i=>(i:Int) | none=> -1
theorem find17 (P:List Place) (u:Int) (rc:List Int):kl P u rc=some (locPI P ⟨u,rc⟩):=by
 unfold kl
 rw[en (f:=gp P u rc) (λx=>x.At==u&&x.Record==rc) (λi=>(i:Int)) (xs:=P) (λi x hx=>by
  unfold gp
  rw[bG,hx,gs]
  by_cases h1:x.At=u
  · rw[show(x.At==u)=true from by simpa using h1,cond_true,gs,same16]
    by_cases h2:x.Record=rc
    · rw[decide_eq_true h2,show(x.Record==rc)=true from by simpa using h2];rfl
    · rw[decide_eq_false h2,show(x.Record==rc)=false from by simpa using h2];rfl
  · rw[show(x.At==u)=false from by simpa using h1];rfl)]
 unfold locPI locR
 cases P.findIdx? (λx=>x.At==u&&x.Record==rc) <;> rfl
section
variable {ps:List Pair}{rc:List Int}(hr:∀x∈rc,0<=x/\x<(ps.length:Int)) (hl:rc.length<=1000)
include hr hl
theorem next17 (v:Int):gN ps rc v=some (nextR ps rc v):=by
 unfold gN
 obtain⟨s,h1,h2⟩:=ca (f:=dY ps rc v) (λj (s:List Int×List Int)=>s=((rc.take j).filter (giveI ps v),(rc.take j).filter λi=> !giveI ps v i)) rc.length (s:=([],[])) rfl (λj s hj hs=>by
  subst hs
  have hx:rc[j]? =some rc[j]:=hV hj
  generalize rc[j]=x at hx
  obtain⟨x0,x1⟩:=hr x (t0 hx)
  obtain⟨p,hp,_⟩:=iE (xs:=ps) x0 x1
  have hg:giveI ps v x=decide (v∈p.Give):=by unfold giveI;rw[hp]
  have l1:((rc.take j).filter (giveI ps v)).length<=1000:=Nat.le_trans (List.length_filter_le ..) (by rw[vO];omega)
  have l2:((rc.take j).filter λi=> !giveI ps v i).length<=1000:=Nat.le_trans (List.length_filter_le ..) (by rw[vO];omega)
  unfold dY
  rw[bG,hx,gs,hp,gs,has16,← hg,gs,vT,hx]
  simp only[Option.toList_some,List.filter_append]
  cases hc:giveI ps v x with
  | true=>
   simp only[cond_true,gs]
   rw[app1 (by omega) rfl]
   exact⟨_,rfl,by simp[hc]⟩
  | false=>
   simp only[cond_false,gs]
   rw[app1 (by omega) rfl]
   exact⟨_,rfl,by simp[hc]⟩)
 rw[h1,h2,gs,bK,List.take_length]
 have l1:(rc.filter (giveI ps v)).length<=1000:=Nat.le_trans (List.length_filter_le ..) hl
 have l2:(rc.filter λi=> !giveI ps v i).length<=1000:=Nat.le_trans (List.length_filter_le ..) hl
 dsimp only
 rw[appL (by omega) rfl];rfl
theorem prio17 (v:Int):gW ps rc v=some (prioR ps rc v):=by
 unfold gW
 obtain⟨s,h1,h2⟩:=ca (f:=d4 ps rc v) (λj (s:Int×Int)=>s=(lastJ (askI ps v) rc j,lastJ (giveI ps v) rc j)) rc.length (s:=(-1,-1)) rfl (λj s hj hs=>by
  subst hs
  have hx:rc[j]? =some rc[j]:=hV hj
  generalize rc[j]=x at hx
  obtain⟨x0,x1⟩:=hr x (t0 hx)
  obtain⟨p,hp,_⟩:=iE (xs:=ps) x0 x1
  have hg:giveI ps v x=decide (v∈p.Give):=by unfold giveI;rw[hp]
  have ha:askI ps v x=decide (v∈p.Ask):=by unfold askI;rw[hp]
  have e1:lastJ (askI ps v) rc (j+1)=bif askI ps v x then(j:Int) else lastJ (askI ps v) rc j:=by
   show(bif (match rc[j]? with | some x=>askI ps v x | none=>false) then(j:Int) else _)=_
   rw[hx]
  have e2:lastJ (giveI ps v) rc (j+1)=bif giveI ps v x then(j:Int) else lastJ (giveI ps v) rc j:=by
   show(bif (match rc[j]? with | some x=>giveI ps v x | none=>false) then(j:Int) else _)=_
   rw[hx]
  refine⟨_,?_,rfl⟩
  unfold d4
  simp only[bG,hx,gs,hp,has16,← hg,← ha]
  rw[e1,e2]
  cases askI ps v x <;> cases giveI ps v x <;> rfl)
 rw[h1,h2,gs,bK]
 have a:=ll (askI ps v) rc rc.length
 have g:=ll (giveI ps v) rc rc.length
 unfold prioR
 dsimp only
 generalize lastJ (askI ps v) rc rc.length=x at *
 generalize lastJ (giveI ps v) rc rc.length=y at *
 rw[wr' (z:=2 * x) (by omega) (by omega),wr' (z:=2 * x+1) (by omega) (by omega),wr' (z:=2 * y) (by omega) (by omega),wr' (z:=2 * y+2) (by omega) (by omega)]
 cases decide (x<0) <;> cases decide (y<0) <;> cases decide (y<x) <;> rfl
end
theorem sorted17 {xs:List Int}(hn:xs.Nodup) (hl:xs.length<=1000):∃S,ia xs=some S/\Asc S/\S.length=xs.length/\∀z,z∈S↔z∈xs:=by
 unfold ia
 obtain⟨s,h1,h2,h3,h4⟩:=ca (f:=eQ xs) (λj (s:List Int)=>Asc s/\s.length=j/\∀z,z∈s↔z∈xs.take j) xs.length (s:=[]) ⟨List.Pairwise.nil,rfl,λz=>by simp⟩ (λj s hj ⟨a1,a2,a3⟩=>by
  have hx:xs[j]? =some xs[j]:=hV hj
  have hxj:=hx
  generalize hxe:xs[j]=x at hx
  have hnot:x∉s:=λhm=>by
   obtain⟨i,hi⟩:=List.getElem?_of_mem ((a3 x).1 hm)
   have hil:=(it.1 hi).1
   rw[vO]at hil
   rw[List.getElem?_take,if_pos (by omega),hV (by omega)]at hi
   have:=(List.pairwise_iff_getElem.1 hn) i j (by omega) hj (by omega)
   exact this ((Option.some.inj hi).trans hxe.symm)
  obtain⟨o,w1,w2⟩:=cw (f:=eq xs (j:Int) s) (λq (k:Int)=>∃m:Nat,k=(m:Int)/\m+q=s.length/\∀(i:Nat) y,m<=i->s[i]? =some y->x<y) (λ_=>False) (λk=>∃m:Nat,k=(m:Int)/\m<=s.length/\(∀(i:Nat) y,m<=i->s[i]? =some y->x<y)/\∀(i:Nat) y,i<m->s[i]? =some y->y<x) s.length (λq k ⟨m,e,hm,hi⟩=>by
   subst e
   unfold eq
   by_cases h0:0<m
   · have hy:s[m-1]? =some (s[m-1]'(by omega)):=hV (by omega)
     generalize s[m-1]'(by omega)=y at hy
     have hw:IntKind.i64.wrap ((m:Int)-1)=((m-1:Nat):Int):=by rw[wr' (by omega) (by omega)];omega
     rw[decide_eq_true (show(0:Int)<(m:Int) by omega),cond_true,hw,bG,hy,gs,bG,hx,gs,gs]
     by_cases hlt:x<y
     · rw[decide_eq_true hlt,cond_true]
       refine⟨_,rfl,by omega,m-1,rfl,by omega,λi z hi' hz=>?_⟩
       by_cases e:i=m-1
       · subst e
         rw[hy]at hz
         cases hz
         exact hlt
       · exact hi i z (by omega) hz
     · rw[decide_eq_false hlt,cond_false]
       refine⟨_,rfl,m,rfl,by omega,hi,λi z hi' hz=>?_⟩
       have hyx:y<x:=by
        have:y≠x:=λe=>hnot (e ▸ t0 hy)
        omega
       by_cases e:i=m-1
       · subst e
         rw[hy]at hz
         cases hz
         exact hyx
       · have:=qz a1 hz hy (by omega)
         omega
   · have hm0:m=0:=by omega
     subst hm0
     rw[decide_eq_false (show ¬(0:Int)<((0:Nat):Int) by omega),cond_false,gs,cond_false]
     exact⟨_,rfl,0,rfl,by omega,hi,λi z hi' _=>absurd hi' (Nat.not_lt_zero i)⟩) (2 ^ 64) 0 (s.length:Int) (by omega) ⟨s.length,rfl,by omega,λi y hi hy=>by
     have:=(it.1 hy).1
     omega⟩ (by omega)
  match o,w2 with
  | .inr k,⟨m,e,m1,m2,m3⟩=>
   subst e
   unfold eQ
   have s1:subS s 0 (m:Int)=some (s.take m):=by
    unfold subS
    rw[if_pos ⟨by omega,by omega,by omega⟩]
    simp
   have s2:subS s (m:Int) (s.length:Int)=some (s.drop m):=by
    unfold subS
    rw[if_pos ⟨by omega,by omega,by omega⟩]
    simp
   have t1:(s.take m).length<=1000:=by rw[vO];omega
   have t2:(s.drop m).length<=1000:=by rw[List.length_drop];omega
   rw[w1,gs,bK,s1,gs,appL (by simp;omega) rfl,gs,bG,hx,gs,List.nil_append,app1 (by omega) rfl,gs,s2,gs,appL (by rw[vK];simp only[vN,vP];omega) rfl,gs]
   have hcut:(s.take m++[x])++s.drop m=ins x s:=by
    rw[List.append_assoc]
    exact ss a1 hnot m1 m3 (λz hz=>m2 m z (Nat.le_refl _) hz)
   refine⟨_,rfl,?_,?_,λz=>?_⟩
   · rw[hcut];exact nW a1
   · rw[hcut,rL hnot a1,a2]
   · rw[hcut,nV hnot,a3,vT,hx]
     simp only[Option.toList_some,vS,vL]
     constructor
     · rintro(h | h)
       · exact .inr h
       · exact .inl h
     · rintro(h | h)
       · exact .inr h
       · exact .inl h)
 rw[h1,gs,bK]
 exact⟨s,rfl,h2,h3,λz=>by rw[h4,List.take_length]⟩
theorem oy {P:List Place}{k:Place}:(locPI P k<0->addR P k=P++[k]/\atR P k=(P.length:Int))/\(¬locPI P k<0->addR P k=P/\atR P k=locPI P k):=by
 unfold locPI addR atR
 cases locR P k with
 | none=>exact⟨λ_=>⟨rfl,rfl⟩,λh=>absurd (by show(-1:Int)<0;omega) h⟩
 | some i=>exact⟨λh=>absurd h (by show ¬((i:Int)<0);omega),λ_=>⟨rfl,rfl⟩⟩
theorem tf (ky:Nat->Place) (K:List Place):∀{i j:Nat},i<=j->(rowR ky K i).1.length<=(rowR ky K j).1.length:=by
 intro i j h
 induction h with
 | refl=>exact Nat.le_refl _
 | step h ih=>
  refine Nat.le_trans ih ?_
  show _<=(addR _ _).length
  exact(qN _ _).1
end Go.Proofs.YtpcjbkgbnoocaaaGreat
set_option linter.unusedVariables false
set_option linter.unusedSimpArgs false
namespace Go.Proofs.YtpcjbkgbnoocaaaGreat
open Go Go.Wk Go.Proofs
theorem conR (l:List Int) (v:Int):bN l v=some (decide (v∈l)):=by
 rw[cX]
 congr 1
 rw[vQ]
 simp
theorem uf (ps:List Pair) (rc:List Int) (v:Int):fZ ps rc v=gN ps rc v:=by
 have h:ed ps rc v=dY ps rc v:=by
  funext j s
  unfold ed dY
  cases idx rc j with
  | none=>rfl
  | some x=>
   simp only[gs]
   cases idx ps x with
   | none=>rfl
   | some p=>simp only[gs,has16,conR]
 unfold fZ gN
 rw[h]
theorem uq (ps:List Pair) (rc:List Int) (v:Int):gc ps rc v=gW ps rc v:=by
 have h:ea ps rc v=d4 ps rc v:=by
  funext j s
  unfold ea d4
  cases idx rc j with
  | none=>rfl
  | some x=>
   simp only[gs]
   cases idx ps x with
   | none=>rfl
   | some p=>simp only[gs,has16,conR]
 unfold gc gW
 rw[h]
theorem sm (P:List Place) (u:Int) (rc:List Int):j4 P u rc=some (locPI P ⟨u,rc⟩):=by
 unfold j4
 rw[da (λx=>x.At==u&&x.Record==rc) (λx _=>by
  unfold iA
  by_cases h1:x.At=u
  · rw[show(x.At==u)=true from by simpa using h1,cond_true,jY]
    by_cases h2:x.Record=rc
    · rw[decide_eq_true h2,show(x.Record==rc)=true from by simpa using h2];rfl
    · rw[decide_eq_false h2,show(x.Record==rc)=false from by simpa using h2];rfl
  · rw[show(x.At==u)=false from by simpa using h1];rfl)]
 rfl
def noRec:Parity×List Place×Bool:=(⟨⟨[],[]⟩,[]⟩,[],false)
section
variable {a:Arena}{v:Place}{ar rc:List Int}{P:List Place}(har:idx a.Next v.At=some ar) (hal:ar.length<=16) (hrl:rc.length<=4)
include har hal hrl
theorem ve (hP:P.length<=256):∃o,whileM (ee a v rc) (2 ^ 64) (P,[],0)=some o/\(match o with
 | .inl r=>r=noRec/\256<(rowR (kyR ar rc) P ar.length).1.length
 | .inr s=>s.1=(rowR (kyR ar rc) P ar.length).1/\s.2.1=(rowR (kyR ar rc) P ar.length).2/\(rowR (kyR ar rc) P ar.length).1.length<=256):=by
 obtain⟨o,w1,w2⟩:=cw (f:=ee a v rc) (λj (s:List Place×List Int×Int)=>s=((rowR (kyR ar rc) P j).1,(rowR (kyR ar rc) P j).2,(j:Int))/\j<=ar.length/\(rowR (kyR ar rc) P j).1.length<=256) (λr=>r=noRec/\256<(rowR (kyR ar rc) P ar.length).1.length)
  (λs=>s.1=(rowR (kyR ar rc) P ar.length).1/\s.2.1=(rowR (kyR ar rc) P ar.length).2/\(rowR (kyR ar rc) P ar.length).1.length<=256) ar.length (λj s ⟨e,hj,hle⟩=>by
  subst e
  have rk:=kA (kyR ar rc) P j
  have hrl2:=rk.rl
  unfold ee
  dsimp only
  rw[har,gs]
  by_cases hlt:j<ar.length
  · have hx:ar[j]? =some ar[j]:=hV hlt
    have hky:kyR ar rc j=⟨ar[j],rc⟩:=by unfold kyR;rw[List.getD_eq_getElem?_getD,hx];rfl
    generalize ar[j]=u at hx hky
    obtain⟨q1,q2⟩:=oy (P:=(rowR (kyR ar rc) P j).1) (k:=kyR ar rc j)
    have hS:rowR (kyR ar rc) P (j+1)=(addR (rowR (kyR ar rc) P j).1 (kyR ar rc j),(rowR (kyR ar rc) P j).2++[atR (rowR (kyR ar rc) P j).1 (kyR ar rc j)]):=rfl
    have hm:=tf (kyR ar rc) P (show j+1<=ar.length by omega)
    rw[decide_eq_true (show(j:Int)<(ar.length:Int) by omega),cond_true,gs,bG,hx,gs,find17,← hky,gs]
    by_cases hc:locPI (rowR (kyR ar rc) P j).1 (kyR ar rc j)<0
    · obtain⟨e1,e2⟩:=q1 hc
      rw[hS,e1]at hm
      simp only[vK,vN,vP]at hm
      by_cases hbig:(256:Int)<=((rowR (kyR ar rc) P j).1.length:Int)
      · rw[decide_eq_true hc,cond_true,decide_eq_true hbig,cond_true]
        exact⟨_,rfl,rfl,by omega⟩
      · rw[decide_eq_true hc,cond_true,decide_eq_false hbig,cond_false,appL (by simp;omega) rfl,gs,List.nil_append,app1 (by omega) rfl,gs,gs,bK]
        dsimp only
        rw[app1 (by omega) rfl,gs,wr' (by omega) (by omega)]
        refine⟨_,rfl,by omega,?_,by omega,?_⟩
        · rw[hS,e1,e2,← hky];rfl
        · rw[hS,e1,vK];simp only[vN,vP];omega
    · obtain⟨e1,e2⟩:=q2 hc
      rw[decide_eq_false hc,cond_false,gs,bK]
      dsimp only
      rw[app1 (by omega) rfl,gs,wr' (by omega) (by omega)]
      refine⟨_,rfl,by omega,?_,by omega,?_⟩
      · rw[hS,e1,e2];rfl
      · rw[hS,e1];exact hle
  · have:j=ar.length:=by omega
    subst this
    rw[decide_eq_false (show ¬((ar.length:Nat):Int)<(ar.length:Int) by omega),cond_false]
    exact⟨_,rfl,rfl,rfl,hle⟩) (2 ^ 64) 0 (P,[],0) (by omega) ⟨rfl,Nat.zero_le _,hP⟩ (by omega)
 exact⟨o,w1,by
  match o,w2 with
  | .inl r,h=>exact h
  | .inr s,h=>exact h⟩
omit har in
theorem uU (hP:P.length<=1000):cntM (bT rc ar) ar.length 0 (P,[])=some (.inr (rowR (kyR ar rc) P ar.length)):=by
 obtain⟨s,h1,h2⟩:=ca (f:=bT rc ar) (λj s=>s=rowR (kyR ar rc) P j) ar.length (s:=(P,[])) rfl (λj s hj e=>by
  subst e
  have rk:=kA (kyR ar rc) P j
  have hrl2:=rk.rl
  have hle:=rk.le
  have hx:ar[j]? =some ar[j]:=hV hj
  have hky:kyR ar rc j=⟨ar[j],rc⟩:=by unfold kyR;rw[List.getD_eq_getElem?_getD,hx];rfl
  generalize ar[j]=u at hx hky
  obtain⟨q1,q2⟩:=oy (P:=(rowR (kyR ar rc) P j).1) (k:=kyR ar rc j)
  refine⟨_,?_,rfl⟩
  unfold bT
  rw[bG,hx,gs,sm,← hky,gs]
  show _=some (Sum.inr (Sum.inr (addR (rowR (kyR ar rc) P j).1 (kyR ar rc j),(rowR (kyR ar rc) P j).2++[atR (rowR (kyR ar rc) P j).1 (kyR ar rc j)])))
  by_cases hc:locPI (rowR (kyR ar rc) P j).1 (kyR ar rc j)<0
  · obtain⟨e1,e2⟩:=q1 hc
    rw[decide_eq_true hc,cond_true,appL (by simp;omega) rfl,gs,List.nil_append,app1 (by omega) rfl,gs,gs]
    dsimp only
    rw[app1 (by omega) rfl,gs,e1,e2,← hky]
  · obtain⟨e1,e2⟩:=q2 hc
    rw[decide_eq_false hc,cond_false,gs]
    dsimp only
    rw[app1 (by omega) rfl,gs,e1,e2])
 rw[h1,h2]
end
end Go.Proofs.YtpcjbkgbnoocaaaGreat
set_option linter.unusedVariables false
set_option linter.unusedSimpArgs false
namespace Go.Proofs.YtpcjbkgbnoocaaaGreat
open Go Go.Wk Go.Proofs
theorem p6 {a:Arena}(ha:arenaOk a=true):parityOk ⟨a,sh a.Owner.length 0⟩=true:=by
 unfold parityOk
 dsimp only
 rw[ha,List.length_replicate,beq_self_eq_true,Bool.true_and,Bool.true_and,List.all_eq_true]
 intro x hx
 rw[(List.mem_replicate.1 hx).2];rfl
theorem pB {a:Arena}(ha:arenaOk a=true):1<=a.Owner.length/\a.Owner.length<=256/\(∀(i:Nat) row,a.Next[i]? =some row->1<=row.length/\row.length<=16)/\(∀o∈a.Owner,inR 2 o=true) /\
 ∀v:Int,0<=v->v<(a.Owner.length:Int)->∃ar o,idx a.Next v=some ar/\idx a.Owner v=some o/\1<=ar.length/\ar.length<=16/\Asc ar/\∀u∈ar,0<=u/\u<(a.Owner.length:Int):=by
 have hp:=p6 ha
 obtain⟨h1,h2,h3,_,h5⟩:=cU hp
 dsimp only at h1 h2 h3 h5
 refine⟨h1,h2,λi row hr=>⟨(h5 i row hr).1,(h5 i row hr).2.1⟩,(n7 hp).1,λv v0 v1=>?_⟩
 obtain⟨ar,har,_⟩:=iE (xs:=a.Next) v0 (by omega)
 obtain⟨o,ho,_⟩:=iE (xs:=a.Owner) v0 v1
 have har':=har
 rw[cG v0]at har'
 obtain⟨r1,r2,r3⟩:=h5 _ ar har'
 obtain⟨r4,r5⟩:=eh.1 r3
 exact⟨ar,o,har,ho,r1,r2,r5,r4⟩
section
variable {a:Arena}{ps:List Pair}{st:Place}(ha:arenaOk a=true) (hk:ps.length<=4)
include ha hk
theorem tw (hv:VOk a.Owner.length ps.length st):(whileM (dq a ps) (2 ^ 64) ([st],0,[],[],[])=some (.inl noRec)/\whileM (bM a ps) (2 ^ 64) ([st],0,[],[],[])=some (.inl noRec)) \/
 ∃s:List Place×Int×List Int×List (List Int)×List Int,whileM (dq a ps) (2 ^ 64) ([st],0,[],[],[])=some (.inr s)/\whileM (bM a ps) (2 ^ 64) ([st],0,[],[],[])=some (.inr s)/\RecG a ps st s.1 ⟨⟨s.2.2.1,s.2.2.2.1⟩,s.2.2.2.2⟩:=by
 obtain⟨_,_,_,_,hA⟩:=pB ha
 obtain⟨o,t,w1,w2,w3⟩:=lA (f:=dq a ps) (g:=bM a ps) (λs t=>s=t/\∃i:Nat,s.2.1=(i:Int)/\RecS a ps st s.1 i s.2.2.1 s.2.2.2.1 s.2.2.2.2/\s.1.length<=256) (λs=>300-s.2.1.toNat) (λr r'=>r=noRec/\r'=noRec)
  (λs t=>s=t/\RecG a ps st s.1 ⟨⟨s.2.2.1,s.2.2.2.1⟩,s.2.2.2.2⟩) (λs t ⟨e,i,hi,hR,hl⟩=>by
  subst e
  obtain⟨P,z,O,N,Q⟩:=s
  dsimp only at hi hR hl
  subst hi
  unfold dq bM
  dsimp only
  by_cases hlt:i<P.length
  · have hvi:P[i]? =some P[i]:=hV hlt
    generalize P[i]=v at hvi
    have hvo:=hR.inn v (t0 hvi)
    obtain⟨ar,ow,har,how,l1,l2,hasc,hin⟩:=hA v.At hvo.a0 hvo.a1
    have hrc:=hvo.rl
    have hn17:=next17 (ps:=ps) (rc:=v.Record) hvo.rin (by omega) v.At
    have hp17:=prio17 (ps:=ps) (rc:=v.Record) hvo.rin (by omega) v.At
    have hnx:=qZ ps v.At hvo.rl hvo.rin
    obtain⟨o1,u1,u2⟩:=ve (a:=a) (v:=v) (ar:=ar) (rc:=nextR ps v.Record v.At) (P:=P) har l2 (by omega) hl
    have hi:=uU (ar:=ar) (rc:=nextR ps v.Record v.At) (P:=P) l2 (by omega) (by omega)
    have hnd:=sa (ar:=ar) (rc:=nextR ps v.Record v.At) (P:=P) (gV hasc)
    have rk:=kA (kyR ar (nextR ps v.Record v.At)) P ar.length
    have hrl:=rk.rl
    obtain⟨S,t1,t2,t3,t4⟩:=sorted17 hnd (by omega)
    have hsort:cm (rowR (kyR ar (nextR ps v.Record v.At)) P ar.length).2=some S:=by
     unfold cm
     rw[if_pos ⟨by omega,by omega⟩]
     exact congrArg some (qe (tR hnd) t2 λz=>by rw[List.mem_mergeSort,t4])
    have hstep:=hR.step hvi har hin how t2 (by rw[t3,hrl]) t4
    have e1:=hR.ol
    have e2:=hR.nl
    have e3:=hR.ql
    have hr1:gx v ps=some (nextR ps v.Record v.At):=by
     unfold gx
     rw[uf,hn17];rfl
    have hr2:ga v ps=some (prioR ps v.Record v.At):=by
     unfold ga
     rw[uq,hp17];rfl
    rw[decide_eq_true (show(i:Int)<(P.length:Int) by omega),cond_true,cond_true,bG,hvi,gs,gs,hn17,gs,u1,gs,hr1,gs,har,gs,hi,gs,bK]
    match o1,u2 with
    | .inl r,⟨r1,r2⟩=>
     subst r1
     rw[decide_eq_true (show(256:Int)<((rowR (kyR ar (nextR ps v.Record v.At)) P ar.length).1.length:Int) by omega),cond_true]
     exact⟨_,_,rfl,rfl,rfl,rfl⟩
    | .inr s,⟨r1,r2,r3⟩=>
     rw[bK,r1,r2,t1,how,gs,decide_eq_false (show ¬(256:Int)<((rowR (kyR ar (nextR ps v.Record v.At)) P ar.length).1.length:Int) by omega),cond_false,hsort,hr2]
     simp only[gs]
     unfold iN
     dsimp only
     rw[app1 (xs:=O) (by omega) rfl,app1 (xs:=N) (by omega) rfl,hp17]
     simp only[gs]
     rw[app1 (xs:=Q) (by omega) rfl,wr' (by omega) (by omega)]
     refine⟨_,_,rfl,rfl,⟨rfl,i+1,by dsimp only;omega,hstep,r3⟩,?_⟩
     dsimp only
     omega
  · rw[decide_eq_false (show ¬(i:Int)<(P.length:Int) by omega),cond_false,cond_false]
    have hil:=hR.il
    have:i=P.length:=by omega
    subst this
    exact⟨_,_,rfl,rfl,rfl,hR,hl⟩) (2 ^ 64) (2 ^ 64) ([st],0,[],[],[]) ([st],0,[],[],[]) (by dsimp only;omega) (by dsimp only;omega) ⟨rfl,0,rfl,RecS.init hv,by simp⟩
 match o,t,w3 with
 | .inl r,.inl r',w3=>
  rw[w3.1]at w1
  rw[w3.2]at w2
  exact .inl ⟨w1,w2⟩
 | .inr s,.inr t,⟨e,hG⟩=>
  subst e
  exact .inr ⟨s,w1,w2,hG⟩
end
theorem ut (k:Nat):cntM dr k 0 []=some (.inr (firstR k))\/1000<k:=by
 by_cases hk:1000<k
 · exact .inr hk
 · obtain⟨s,h1,h2⟩:=ca (f:=dr) (λj s=>s=firstR j) k (s:=[]) rfl (λj s hj e=>by
    subst e
    unfold dr
    rw[app1 (by unfold firstR;rw[List.length_map,List.length_range];omega) rfl]
    exact⟨_,rfl,by unfold firstR;rw[List.range_succ,List.map_append];rfl⟩)
   exact .inl (by rw[h1,h2])
theorem oW {a:Arena}{ps:List Pair}{st:Int}(ha:arenaOk a=true) (hp:pairsOk ps (a.Owner.length:Int)=true) (hb:∀x∈ps,x.Ask.length<=1000000000/\x.Give.length<=1000000000) (h0:0<=st) (h1:st<(a.Owner.length:Int)):
 (c8 a ps st=some noRec/\dZ a ps st=some noRec)\/∃P g,RecG a ps ⟨st,firstR ps.length⟩ P g/\parityOk g=true/\c8 a ps st=some (g,P,true)/\dZ a ps st=some (g,P,true):=by
 obtain⟨n1,n2,n3,n4,_⟩:=pB ha
 have hk:ps.length<=4:=by
  unfold pairsOk at hp
  rw[Bool.and_eq_true,decide_eq_true_eq]at hp
  omega
 have hf:cntM dr ps.length 0 []=some (.inr (firstR ps.length)):=(ut ps.length).resolve_right (by omega)
 have hf':cntM gZ ps.length 0 []=some (.inr (firstR ps.length)):=hf
 have hv:VOk a.Owner.length ps.length ⟨st,firstR ps.length⟩:=⟨h0,h1,by unfold firstR;rw[List.length_map,List.length_range],λx hx=>by
  unfold firstR at hx
  obtain⟨i,hi,e⟩:=List.mem_map.1 hx
  have:=List.mem_range.1 hi
  have e:(i:Int)=x:=e
  omega⟩
 unfold c8 dZ cd
 rw[ku,ha,gs,vJ,cond_false,lY (by omega) (by omega) hb,hp,gs,gs,vJ,cond_false,cV,wr' (by omega) (by omega),decide_eq_true h0,decide_eq_true (show st<=(a.Owner.length:Int)-1 by omega),Bool.and_self,gs,gs,vJ,cond_false,hf,hf',gs,gs,bK,bK]
 rcases tw ha hk hv with ⟨w1,w2⟩ | ⟨s,w1,w2,hG⟩
 · left
   rw[w1,w2]
   exact⟨rfl,rfl⟩
 · right
   rw[w1,w2]
   exact⟨s.1,_,hG,hG.ok ha n4 n3 hk,rfl,rfl⟩
end Go.Proofs.YtpcjbkgbnoocaaaGreat
