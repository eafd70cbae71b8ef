/- Loops that break a pair: both sides compute the same. -/
import Derived.Test.YtldlmopdhmaceaaGreatDoorL3BE
import Derived.Test.YtldlmopdhmaceaaGreatDoorL0BE
import Derived.Test.YtldlmopdhmaceaaGreatDoorL2BE
import Derived.Test.YtldlmopdhmaceaaGreatDoorTextBE
import Derived.Lib.SplitLaws
import Derived.Lib.IndexBytes
import Derived.Test.YtldlmopdhmaceaaGreatDoorLwBE
set_option linter.unusedVariables false
set_option linter.unusedSimpArgs false
open Bool renaming and_eq_true → ra, false_eq_true → C4, not_true → F7
open Int renaming le_refl → Ga, tmod_eq_emod_of_nonneg → He, toNat_natCast → Gb
open Go.IntKind renaming bits → F3, u64 → F5, wrap → FW
open List renaming all_eq_true → Gc, cons_append → Hf, exists_cons_of_ne_nil → Hg, ext_getElem? → Fv, foldl_cons → Hh, getD_eq_getElem?_getD → bR, getElem?_append_left → Fw, getElem?_append_right → Fx, getElem?_eq_getElem → ct, getElem?_eq_none → GG, getElem?_eq_some_iff → C7, getElem?_map → FA, getElem?_of_mem → Gf, getElem?_range → G8, length_append → C9, length_cons → E1, length_eq_zero_iff → GI, length_map → Gg, length_nil → Gh, length_take → FE, map_append → FF, mem_append → E4, mem_cons → E5, mem_cons_of_mem → FG, mem_cons_self → Gi, mem_filter → Gj, mem_map → FH, mem_of_getElem? → FI, mem_singleton → E7, nil_append → G0, not_mem_nil → E8, range → GO, replicate → FK, take_add_one → Gv, take_length → Gx, take_of_length_le → FN
open Nat renaming le_refl → Fg, le_trans → GQ, mul_le_mul_left → Hi, not_lt_zero → Gy, strongRecOn → Hj, zero_le → Gz
open Option renaming bind → FR, bind_eq_some_iff → Hk, bind_some → GA, getD_some → Hc
open Option.some renaming inj → GS
namespace Go.Proofs.YtldlmopdhmaceaaGreatDoor
open Go Go.Wk Go.Proofs
section
open Classical
def mayM (n:Nat) (S:VI):VB:=(GO n).map λi:Nat=> !decide ((i:Int)∈S)
theorem lg (n:Nat) (S:VI):(mayM n S).length=n:=by simp[mayM]
theorem z7 {n:Nat}{S:VI}(v:Int):In (mayM n S) v↔(0<=v/\v<n)/\v∉S:=by
 constructor
 .intro h
  obtain⟨a,c⟩:=fl (lg n S) h
  obtain⟨i,b⟩:=dD a
  subst b
  unfold In mayM at h
  rw[bT,FA,G8 (by omega)]at h
  exact⟨⟨a,c⟩,by simpa using h⟩
 .rintro⟨⟨a,c⟩,h⟩
  obtain⟨i,b⟩:=dD a
  subst b
  unfold In mayM
  rw[bT,FA,G8 (by omega)]
  simp[h]
noncomputable def hitP (N:VV) (p:Pair):VI:=hitN N (mayM N.length p.Give) p.Ask
structure Gn (N:VV) (n:Nat):Prop where
 ln:N.length=n
 le:n<=256
 row:∀v r,idx N v=some r->r.length<=10000/\∀u∈r,0<=u/\u<n
theorem Gn.gr {N:VV}{n:Nat}(g:Gn N n) (S:VI):Gr N (mayM n S) n:=⟨g.ln,lg n S,g.le,g.row⟩
section
variable {N:VV}{n:Nat}(g:Gn N n)
include g
omit g in
theorem Bn {p:Pair}(a:St n p.Ask):Asc (hitP N p):=a.asc.filter _
theorem xG {p:Pair}(z:Int):z∈hitP N p↔z∈p.Ask/\Far (scN N (mayM n p.Give)) z:=by
 unfold hitP hitN
 rw[g.ln,Gj,decide_eq_true_eq]
 exact⟨λ⟨a,_,b⟩=>⟨a,b⟩,λ⟨a,b⟩=>⟨a,od b,b⟩⟩
theorem AG {w:watch}(d:w.next=N) (S:VI):io w S=some (mayM n S):=by
 have k:=g.le
 unfold io
 rw[d,g.ln,dq (by omega) rfl,GA,List.length_replicate]
 obtain⟨M,b,e,c⟩:=fill (f:=fa S) (λj=> !decide ((j:Int)∈S)) n (s0:=FK n false) (by simp) (λj l hj hs=>by
  unfold fa
  rw[conI,GA])
 rw[b,GA,bV]
 congr 1
 refine Fv λi=>?_
 by_cases a:i<n
 .rw[← bT,c i a]
  unfold mayM
  rw[FA,G8 a];rfl
 .rw[GG (by omega),GG (by rw[lg];omega)]
theorem AH {w:watch}(A:w.next=N){p:Pair}(F:St n p.Ask):ip w p=some (hitP N p):=by
 have X:=g.le
 have I:=g.gr p.Give
 unfold ip
 rw[AG g A,GA,A,CK I,GA]
 have M:∀c∈loopsN N (mayM n p.Give),c.length<=256:=λc d=>by
  unfold loopsN at d
  obtain⟨s,_,rfl⟩:=FH.1 d
  unfold partG
  have:=iu (mayM n p.Give) (mayM n p.Give).length
  rw[lg]at this
  exact GQ (List.length_filter_le _ _) (by rw[lg];omega)
 have O:(loopsN N (mayM n p.Give)).length<=256:=by
  unfold loopsN
  rw[Gg]
  have:=iu (mayM n p.Give) (mayM n p.Give).length
  rw[lg]at this
  exact GQ (List.length_filter_le _ _) (by rw[lg];omega)
 obtain⟨a,o,e,V⟩:=cg (f:=fb p (loopsN N (mayM n p.Give))) (λj (a:VI)=>a=((loopsN N (mayM n p.Give)).take j).flatMap (λc=>c.filter λx=>decide (x∈p.Ask))/\a.length<=j * 256) (loopsN N (mayM n p.Give)).length (s:=[]) ⟨rfl,by simp⟩ (λj a hj ⟨D,E⟩=>by
  have d:(loopsN N (mayM n p.Give))[j]? =some (loopsN N (mayM n p.Give))[j]:=ct hj
  generalize(loopsN N (mayM n p.Give))[j]=c at d
  have W:=M c (FI d)
  obtain⟨r,t,l,v⟩:=cg (f:=fc p c) (λi (r:VI)=>r=a++(c.take i).filter (λx=>decide (x∈p.Ask))/\r.length<=j * 256+i) c.length (s:=a) ⟨by simp,GQ E (Nat.le_add_right _ _)⟩ (λi r K ⟨y,U⟩=>by
   have q:c[i]? =some c[i]:=ct K
   generalize c[i]=x at q
   unfold fc
   rw[bT,q,GA,conI,GA,Gv,q]
   by_cases h:x∈p.Ask
   .rw[decide_eq_true h,cond_true,app1 (by omega) rfl,GA,GA]
    exact⟨_,rfl,by rw[y];simp[List.filter_append,h],by simp;omega⟩
   .rw[decide_eq_false h,cond_false,GA]
    exact⟨_,rfl,by rw[y];simp[List.filter_append,h],by omega⟩)
  unfold fb
  rw[bT,d,GA,t,GA,bV]
  rw[Gx]at l
  refine⟨_,rfl,?_,by omega⟩
  rw[l,D,Gv,d,List.flatMap_append]
  simp)
 rw[Gx]at e
 rw[o,GA,bV]
 have Q:a.Nodup:=by
  rw[e]
  unfold loopsN
  rw[List.flatMap_map,List.Nodup,List.pairwise_flatMap]
  refine⟨λs _=>?_,?_⟩
  .exact List.Pairwise.filter _ (iz (mO s))
  .have H:Asc ((cT (mayM n p.Give) (mayM n p.Give).length).filter λs=>decide (Lead (scN N (mayM n p.Give)) s)):=(pZ _ _).filter _
   refine H.imp_of_mem λ{C b} ha hb G x q B S u=>?_
   subst u
   have L:=of_decide_eq_true (Gj.1 hb).2
   have t:=(fC.1 (Gj.1 q).1).2
   have l:=(fC.1 (Gj.1 S).1).2
   exact L.2 C G (t.trans l.symm)
 have P:∀m,m∈a↔m∈hitP N p:=λm=>by
  rw[e,List.mem_flatMap,xG g]
  constructor
  .rintro⟨c,d,T⟩
   obtain⟨o,e⟩:=Gj.1 T
   unfold loopsN at d
   obtain⟨s,R,rfl⟩:=FH.1 d
   have hl:=of_decide_eq_true (Gj.1 R).2
   exact⟨of_decide_eq_true e,hl.1.akin (fC.1 o).2⟩
  .rintro⟨o,e⟩
   refine⟨partG N (mayM n p.Give) m,?_,Gj.2 ⟨fC.2 ⟨od e,Akin.refl m⟩,decide_eq_true o⟩⟩
   obtain⟨r,t,l,v⟩:=ud e
   unfold loopsN
   exact FH.2 ⟨_,Gj.2 ⟨cM.2 (od v.1),decide_eq_true v⟩,(yc l).symm⟩
 have z:(a.mergeSort λx B=>decide (x<=B))=hitP N p:=mT (uC Q) (Bn F) λm=>by rw[(List.mergeSort_perm a _).mem_iff,P]
 have hs:cr a=some (hitP N p):=by
  unfold cr
  by_cases h:0<a.length
  .have hm:(loopsN N (mayM n p.Give)).length * 256<=256 * 256:=Nat.mul_le_mul_right _ O
   rw[if_pos ⟨h,by omega⟩,z]
  .have u:a=[]:=GI.1 (by omega)
   rw[if_neg (λk=>h k.1),if_pos (by omega)]
   rw[← z,u,List.mergeSort_nil]
 rw[hs];rfl
end
noncomputable def brkN (N:VV) (ps:VP):Nat->VI
 |0=>[]
 |j+1=>brkN N ps j++(match ps[j]? with | some p=>if hitP N p=[] then[] else[(j:Int)] | none=>[])
theorem rh (N:VV) (ps:VP) (j:Nat):brkN N ps (j+1)=brkN N ps j++(match ps[j]? with | some p=>if hitP N p=[] then[] else[(j:Int)] | none=>[]):=rfl
theorem xq (N:VV) (ps:VP):∀j,(brkN N ps j).length<=j
 |0=>Fg _
 |j+1=>by
  have:=xq N ps j
  rw[rh,C9]
  have:(match ps[j]? with | some p=>if hitP N p=[] then[] else[(j:Int)] | none=>[]:VI).length<=1:=by
   cases ps[j]? with
   |none=>simp
   |some p=>dsimp only;split <;> simp
  omega
theorem xr (N:VV) (ps:VP):∀(j:Nat) (z:Int),z∈brkN N ps j↔∃i:Nat,i<j/\z=(i:Int)/\∃p,ps[i]? =some p/\hitP N p≠[]
 |0,z=>by simp[brkN]
 |j+1,z=>by
  rw[rh,E4,xr N ps j]
  constructor
  .rintro(⟨i,e,b⟩|h)
   .exact⟨i,by omega,b⟩
   .cases a:ps[j]? with
    |none=>rw[a]at h;cases h
    |some p=>
     rw[a]at h
     dsimp only at h
     by_cases hp:hitP N p=[]
     .rw[if_pos hp]at h;cases h
     .rw[if_neg hp,E7]at h
      exact⟨j,by omega,h,p,a,hp⟩
  .rintro⟨i,e,b,p,c,d⟩
   by_cases a:i=j
   .subst a
    right
    rw[c]
    dsimp only
    rw[if_neg d,E7]
    exact b
   .exact .inl ⟨i,by omega,b,p,c,d⟩
section
variable {N:VV}{n:Nat}(g:Gn N n){ps:VP}(hp:∀p∈ps,St n p.Ask) (hl:ps.length<=4)
include g hp hl
theorem AC {w:watch}(i:w.next=N) (c:w.pairs=ps):i8 w=some (brkN N ps ps.length):=by
 obtain⟨b,d,e⟩:=cg (f:=fL w) (λj b=>b=brkN N ps j) ps.length (s:=[]) rfl (λj b hj hs=>by
  subst hs
  have a:ps[j]? =some ps[j]:=ct hj
  generalize ps[j]=p at a
  have k:=xq N ps j
  unfold fL
  rw[c,bT,a,GA,AH g i (hp p (FI a)),GA]
  rw[rh,a]
  dsimp only
  by_cases h:hitP N p=[]
  .rw[h,if_pos rfl,List.append_nil]
   exact⟨_,rfl,rfl⟩
  .have:0<(hitP N p).length:=List.length_pos_iff.2 h
   rw[decide_eq_true (by omega),cond_true,app1 (by omega) rfl,if_neg h]
   exact⟨_,rfl,rfl⟩)
 unfold i8
 rw[c,d,GA,bV,e]
end
structure AK (p:Sig) (m:Machine) (cs:VC) (n k:Nat) (D:Det) (K:List Key) (w:watch):Prop where
 hs:sigOk p=true
 hm:machOk p m=true
 hc:dI p cs=true
 ln:ltd p=((n:Nat):Int)
 kn:pw p.In=((k:Nat):Int)
 pr:PR n cs D
 hd:detOk p D=true
 pl:D.Pairs.length=cs.length
 wk:WK p m D k K w
theorem AK.gn {p:Sig}{m:Machine}{d:VC}{n k:Nat}{D:Det}{K:List Key}{w:watch}(h:AK p m d n k D K w):Gn w.next K.length:=⟨h.wk.prod.rl,h.wk.le,λu f a=>by
 obtain⟨j,_⟩:=cO a
 rw[cN j]at a
 obtain⟨r,t,s,g⟩:=h.wk.prod.row _ f a
 have q:=iD p.In
 have hk:=h.kn
 refine⟨by omega,λx e=>?_⟩
 obtain⟨i,b⟩:=Gf e
 have o:=(C7.1 b).1
 obtain⟨v,c,y,l⟩:=g i (by omega)
 rw[b]at c
 cases c
 have:=(C7.1 l).1
 omega⟩
theorem AK.ps {p:Sig}{m:Machine}{a:VC}{n k:Nat}{D:Det}{K:List Key}{w:watch}(h:AK p m a n k D K w):w.pairs.length=a.length/\w.pairs.length<=4/\∀x∈w.pairs,St K.length x.Ask:=by
 obtain⟨_,_,b,_⟩:=eb h.hd
 have:=h.pl
 rw[h.wk.pairs,Gg]
 refine⟨h.pl,b,λx c=>?_⟩
 obtain⟨d,_,rfl⟩:=FH.1 c
 show St K.length (partN K d.Ask K.length)
 rw[rO _ _ _ (Fg _)]
 exact zd _ _ _ _
end
def Eg (N:VV) (v i x:Int):Prop:=∃a,idx N v=some a/\idx a i=some x
theorem Eg.uniq {N:VV}{v i x y:Int}:Eg N v i x->Eg N v i y->x=y:=λ⟨e,c,d⟩ ⟨f,a,b⟩=>by
 rw[c]at a;cases a
 rw[d]at b;cases b
 rfl
def Way (N:VV) (M:VB):Int->VI->Int->Prop
 |v,[],u=>u=v
 |v,i::w,u=>∃x,Eg N v i x/\In M x/\Way N M x w u
theorem Way.snoc {N:VV}{M:VB}:∀{w:VI}{v u i x:Int},Way N M v w u->Eg N u i x->In M x->Way N M v (w++[i]) x
 | [],v,u,i,x,h,e,hx=>by
  have h:u=v:=h
  subst h
  exact⟨x,e,hx,rfl⟩
 |j::w,v,u,i,x,⟨y,h1,h2,h3⟩,e,hx=>⟨y,h1,h2,h3.snoc e hx⟩
theorem Way.uniq {N:VV}{M:VB}:∀{w:VI}{v u a:Int},Way N M v w u->Way N M v w a->u=a
 | [],v,u,a,h,b=>by
  have h:u=v:=h
  have b:a=v:=b
  rw[h,b]
 |j::w,v,u,a,⟨y,h1,h2,h3⟩,⟨y',h1',h2',h3'⟩=>by
  have:=h1.uniq h1'
  subst this
  exact h3.uniq h3'
def lexL:VI->VI->Prop
 |a::s,b::t=>a<b\/(a=b/\lexL s t)
 |_,_=>False
theorem lexL.trans:∀{a b c:VI},lexL a b->lexL b c->lexL a c
 | [],_,_,h,_=>by cases ‹VI› <;> exact h.elim
 |_::_,[],_,h,_=>h.elim
 |_::_,_::_,[],_,h=>h.elim
 |x::a,y::b,z::c,h,d=>by
  rcases h with h|⟨h,k⟩
  .rcases d with d|⟨d,e⟩
   .exact .inl (by omega)
   .exact .inl (by omega)
  .rcases d with d|⟨d,e⟩
   .exact .inl (by omega)
   .exact .inr ⟨by omega,k.trans e⟩
theorem lexL.irr:∀{a:VI},¬lexL a a
 | [],h=>h
 |x::a,h=>by
  rcases h with h|⟨_,k⟩
  .omega
  .exact k.irr
theorem lexL.app {x y:Int}:∀{a b:VI},lexL a b->lexL (a++[x]) (b++[y])
 | [],b,h=>by cases b <;> exact h.elim
 |_::_,[],h=>h.elim
 |p::a,q::b,h=>by
  rcases h with h|⟨h,k⟩
  .exact .inl h
  .exact .inr ⟨h,k.app⟩
theorem lexL.last {i j:Int}(h:i<j):∀a:VI,lexL (a++[i]) (a++[j])
 | []=> .inl h
 |p::a=> .inr ⟨rfl,lexL.last h a⟩
def slt (a b:VI):Prop:=a.length<b.length\/(a.length=b.length/\lexL a b)
def sle (a b:VI):Prop:=a=b\/slt a b
theorem slt.trans {a b c:VI}(h:slt a b) (d:slt b c):slt a c:=by
 rcases h with h|⟨h,k⟩
 .rcases d with d|⟨d,e⟩
  .exact .inl (by omega)
  .exact .inl (by omega)
 .rcases d with d|⟨d,e⟩
  .exact .inl (by omega)
  .exact .inr ⟨by omega,k.trans e⟩
theorem slt.irr {a:VI}(h:slt a a):False:=by
 rcases h with h|⟨h,k⟩
 .omega
 .exact k.irr
theorem slt.app {a b:VI}{x y:Int}(h:slt a b):slt (a++[x]) (b++[y]):=by
 rcases h with h|⟨h,k⟩
 .exact .inl (by simp only[C9,E1,Gh];omega)
 .exact .inr ⟨by simp[h],k.app⟩
theorem slt.last {i j:Int}(h:i<j) (a:VI):slt (a++[i]) (a++[j]):= .inr ⟨by simp,lexL.last h a⟩
theorem sle.trans {a b c:VI}(h:sle a b) (d:sle b c):sle a c:=by
 rcases h with rfl|h
 .exact d
 .rcases d with rfl|d
  .exact .inr h
  .exact .inr (h.trans d)
theorem sle.anti {a b:VI}(h:sle a b) (c:sle b a):a=b:=by
 rcases h with rfl|h
 .rfl
 .rcases c with rfl|c
  .rfl
  .exact(h.trans c).irr.elim
theorem sle.slt {a b c:VI}(h:sle a b) (d:slt b c):slt a c:=by
 rcases h with rfl|h
 .exact d
 .exact h.trans d
theorem sle.app {a b:VI}(x:Int) (h:sle a b):sle (a++[x]) (b++[x]):=by
 rcases h with rfl|h
 .exact .inl rfl
 .exact .inr h.app
theorem sle.cons {a b:VI}(x:Int) (h:sle a b):sle (x::a) (x::b):=by
 rcases h with rfl|h|⟨h,k⟩
 .exact .inl rfl
 .exact .inr (.inl (by simp only[E1];omega))
 .exact .inr (.inr ⟨by simp only[E1,h],.inr ⟨rfl,k⟩⟩)
def LeastW (N:VV) (M:VB) (v u:Int) (w:VI):Prop:=w≠[]/\Way N M v w u/\∀a,a≠[]->Way N M v a u->sle w a
theorem LeastW.uniq {N:VV}{M:VB}{v u:Int}{w w':VI}(h:LeastW N M v u w) (a:LeastW N M v u w'):w=w':=(h.2.2 w' a.1 a.2.1).anti (a.2.2 w h.1 h.2.1)
theorem Lv.way {N:VV}{M:VB}{s:Int}:∀{d:Nat}{k:Int},Lv (scN N M) s d k->∃w:VI,w.length=d/\Way N M k w s
 |0,k,h=>⟨[],rfl,(show k=s from h).symm⟩
 |d+1,k,⟨u,h1,h2⟩=>by
  obtain⟨w,f,g⟩:=Lv.way h2
  obtain⟨_,c,e,b,hm⟩:=gU.1 h1
  obtain⟨i,a⟩:=Gf hm
  exact⟨(i:Int)::w,by simp[f],u,⟨e,b,by rw[bT];exact a⟩,c,g⟩
theorem Way.lv {N:VV}{M:VB}{s:Int}:∀{w:VI}{k:Int},In M k->Way N M k w s->Lv (scN N M) s w.length k
 | [],k,_,h=>(show s=k from h).symm
 |i::w,k,hk,⟨x,⟨row,hr,hx⟩,hm,h⟩=>⟨x,gU.2 ⟨hk,hm,row,hr,by
  obtain⟨b,_,a⟩:=eh hx
  exact FI a⟩,Way.lv hm h⟩
theorem Eg.tab {N:VV}{v i x:Int}(h:Eg N v i x):tab N v i=x:=by
 obtain⟨f,a,b⟩:=h
 obtain⟨g,_,d⟩:=eh a
 obtain⟨e,_,c⟩:=eh b
 unfold Go.Proofs.YtldlmopdhmaceaaGreatDoor.tab
 rw[bR (l:=N),d,Hc,bR,c,Hc]
section
variable {p:Sig}{m:Machine}{d:Det}{k:Nat}{K:List Key}{w:watch}(h:WK p m d k K w)
include h
theorem Cq {M:VB}(hM:∀a:Int,0<=a->a<K.length->In M a):∀(q:Nat),q<K.length->∃R,Way w.next M 0 R (q:Int):=λq=>by
 induction q using Hj with
 |ind q ih=>
  intro p
  have b:K[q]? =some K[q]:=ct p
  rcases h.prod.src q _ b with rfl|⟨j,x,a,f,g,i,k,l⟩
  .exact⟨[],rfl⟩
  .obtain⟨R,o⟩:=ih j f g
   have u:=h.prod.rl
   have e:w.next[j]? =some w.next[j]:=ct (by omega)
   obtain⟨_,v,d,m⟩:=h.prod.row j _ e
   rw[i]at d;cases d
   obtain⟨r,s,y,c⟩:=m x k
   rw[← l,← b]at c
   have t:=(List.getElem?_inj (by have:=(C7.1 (c.trans b)).1;exact this) h.prod.nod).1 c
   have n:r=(q:Int):=by omega
   subst n
   exact⟨R++[(x:Int)],o.snoc ⟨_,by rw[bT];exact e,by rw[bT];exact s⟩ (hM _ (by omega) (by omega))⟩
end
def stP (p:Sig) (m:Machine) (c:Clause) (v:Key) (i:Int):Key:=(tab m.Next v.1 i,mst c v.2 (tab m.Out v.1 i * pw p.In+i))
def RunP (p:Sig) (m:Machine) (c:Clause) (G:VI):Key->VI->Key->Prop
 |v,[],u=>u=v
 |v,i::R,u=>0<=i/\i<pw p.In/\(stP p m c v i).2∉G/\RunP p m c G (stP p m c v i) R u
theorem Way.append {N:VV}{M:VB}{B:VI}{x:Int}:∀{A:VI}{v u:Int},Way N M v A u->Way N M u B x->Way N M v (A++B) x
 | [],v,u,h,h'=>by
  have h:u=v:=h
  subst h;exact h'
 |i::A,v,u,⟨y,h1,h2,h3⟩,h'=>⟨y,h1,h2,h3.append h'⟩
section
variable {p:Sig}{m:Machine}{c:Clause}
def kst (p:Sig) (m:Machine) (c:Clause) (I:Nat->Int) (t:Nat):Key:=(runM m I t,mrun c (letM p m I) t)
theorem RunP.rng {G:VI}:∀{R:VI}{v u:Key},RunP p m c G v R u->∀x∈R,0<=x/\x<pw p.In
 | [],_,_,_,x,a=>by cases a
 |i::R,v,u,⟨h0,h1,_,h⟩,x,a=>by
  rcases E5.1 a with b|a
  .rw[b];exact⟨h0,h1⟩
  .exact RunP.rng h x a
theorem RunP.st {G:VI}{I:Nat->Int}:∀{n t:Nat}{u:Key},RunP p m c G (kst p m c I t) (seg I t n) u->u=kst p m c I (t+n)/\∀i,i<n->mrun c (letM p m I) (t+i+1)∉G
 |0,t,u,h=>⟨h,λi a=>absurd a (Gy i)⟩
 |n+1,t,u,⟨_,_,h1,h2⟩=>by
  obtain⟨d,b⟩:=RunP.st (t:=t+1) h2
  refine⟨by rw[d,show t+1+n=t+(n+1) by omega],λi a=>?_⟩
  cases i with
  |zero=>exact h1
  |succ i=>
   have:=b i (by omega)
   rwa [show t+1+i+1=t+(i+1)+1 by omega]at this
end
section
variable {p:Sig}{d:Det}{n m k:Nat}{A:Arena}{P:VL}{g:Parity}{W:Int->Prop}{pk:VI}(h:Cx d n m k A P g W pk) (h0:wB W 0=false) (hm:pw p.In=(m:Int)){j:Nat}(hj:∀i,i<j->i<(itM d n m k P g pk i).1.length) (hjl:j=(itM d n m k P g pk j).1.length)
include h h0 hm hj hjl
theorem xU {v:Key}(l:RchW (kyW ⟨(itM d n m k P g pk j).2.1,(itM d n m k P g pk j).2.2⟩ d (pw p.In)) m v):0<=v.1/\∃x,(itM d n m k P g pk j).1[v.1.toNat]? =some x/\v.2=atP P x:=by
 obtain⟨_,_,D⟩:=wl (d:=d) (n:=n) (m:=m) (k:=k) (P:=P) (g:=g) (pk:=pk) j hj
 have hM:=gT h h0 j hj
 induction l with
 |zero=>
  refine⟨Ga 0,0,hM.zero,?_⟩
  exact(dR (v:=⟨0,firstR d.Pairs.length⟩) (by show idx P ((0:Nat):Int)=_;rw[bT];exact h.rg.game.zero)).symm
 | @step v i l f F=>
  obtain⟨V,x,b,N⟩:=F
  obtain⟨W,S,Q,c,u,w,y⟩:=D _ (by rw[hjl];exact(C7.1 b).1)
  rw[b]at c
  cases c
  obtain⟨⟨K,L,M,r⟩,s⟩:=y i f
  obtain⟨E,o⟩:=hM.all x (FI b)
  obtain⟨R,a,_,_⟩:=h.place (hM.nm.2 x (FI b))
  rw[dR a]at o
  obtain⟨q,G,e,O,z,_,_,C⟩:=vo h a o E
  obtain⟨_,_,U,_,_,_,_,_,T,H,_,I,_⟩:=C i f
  rw[dV z,dR a,e,Gb]at r s
  have A:tab (itM d n m k P g pk j).2.1 v.1 (i:Int)=K:=by
   unfold tab
   rw[bR,bR,u,Hc,Gb,L,Hc]
  have B:tab (itM d n m k P g pk j).2.2 v.1 (i:Int)=oM d pk P G n m k q i:=by
   unfold tab
   rw[bR,bR,w,Hc,Gb,s,Hc]
  show 0<=tab (itM d n m k P g pk j).2.1 v.1 (i:Int)/\∃t,(itM d n m k P g pk j).1[(tab (itM d n m k P g pk j).2.1 v.1 (i:Int)).toNat]? =some t/\tab d.Next v.2 (tab (itM d n m k P g pk j).2.2 v.1 (i:Int) * pw p.In+(i:Int))=atP P t
  rw[A,B,hm,N,dR a,e]
  exact⟨M,_,r,(yb I).2.trans H⟩
end
theorem MadeBy.inj {p:Sig}{e:VC}{M:Machine}(h:MadeBy p e M){D:Det}{k:Nat}(i:cU p e=some (D,true)) (hk:pw p.In=(k:Int)){u:Key}(r:RchW (kyW M D (pw p.In)) k u):0<=u.1/\u.1<32/\∀b,RchW (kyW M D (pw p.In)) k b->u.1=b.1->u=b:=by
 obtain⟨o,a,q,hp,h0,hj,hjl⟩:=h
 rename_i d n m B A P g W pk j
 rw[o]at i
 cases i
 have:m=k:=by have:=a.im;omega
 subst this
 have hM:=gT a.cx h0 j hj
 have z:=qK a.cx q hp hM.nm λx t=>(hM.all x t).2
 obtain⟨l,x,c,v⟩:=xU (p:=p) a.cx h0 a.im hj hjl r
 have:=(C7.1 c).1
 refine⟨l,by omega,λb s f=>Prod.ext f ?_⟩
 obtain⟨_,C,w,y⟩:=xU (p:=p) a.cx h0 a.im hj hjl s
 rw[f,w]at c
 cases c
 rw[v,y]
theorem MadeBy.few {p:Sig}{f:VC}{M:Machine}(h:MadeBy p f M){D:Det}{k:Nat}(g:cU p f=some (D,true)) (hk:pw p.In=(k:Int)):¬ManyK M D (pw p.In) k:=by
 rintro⟨K,r,o,_,e⟩
 have j:(K.map (·.1)).Nodup:=by
  unfold List.Nodup
  rw[List.pairwise_map]
  exact List.Pairwise.imp_of_mem (λ{q a} m d l c=>l ((h.inj g hk (e q m)).2.2 a (e a d) c)) o
 have:=ez 32 _ j λx n=>by
  obtain⟨a,d,c⟩:=FH.1 n
  obtain⟨i,b,_⟩:=h.inj g hk (e a d)
  rw[← c]
  exact⟨i,b⟩
 rw[Gg]at this
 omega
section
variable {p:Sig}{m:Machine}{d:Det}(hs:sigOk p=true) (hm:machOk p m=true) (hd:detOk p d=true){k:Nat}(hk:pw p.In=(k:Int)) (hM:¬ManyK m d (pw p.In) k)
include hs hm hd hk hM
theorem A7:∃a,ci (iY p m d) (2 ^ 64) ([(0,0)],0,[],[],ixm 0 [(0,0)])=some (.inr a)/\InvW m d k a/\InvX m d (pw p.In) k a/\a.2.1=a.1.length:=by
 obtain⟨af,ag,ah,P,ai⟩:=gi hm
 obtain⟨W,X,_,_⟩:=eb hd
 have ac:=iD p.In
 obtain⟨U,E,n⟩:=cZ (f:=iY p m d) (λj a=>a.2.1=(j:Int)/\InvW m d k a/\InvX m d (pw p.In) k a) (λ_=>False) (λa=>InvW m d k a/\InvX m d (pw p.In) k a/\a.2.1=a.1.length) 256 (λj a ⟨hj,u,v⟩=>by
  obtain⟨e,M,N,Q,R,z,A,S⟩:=id u
  obtain⟨K,ad,T,O,ae⟩:=a
  dsimp only at hj e M N Q R z A S
  subst A hj
  unfold iY
  dsimp only
  by_cases w:(j:Int)<(K.length:Int)
  .obtain⟨⟨q,b⟩,g⟩:∃V,K[j]? =some V:=⟨_,ct (by omega)⟩
   obtain⟨i,l,r,s⟩:=e _ (FI g)
   dsimp only at i l r s
   obtain⟨B,y,I⟩:=g8 (xs:=m.Next) i l
   have L:B.length=k:=by have:=(P B I).1;omega
   have G:=D4 hs hm hd hk i l r s e (by omega) (x42:=(q,b)) (x47:=(q,b)) rfl rfl y
   have o:InvX m d (pw p.In) k ((rowW m d (pw p.In) q b K k).1,(j:Int)+1,T++[(rowW m d (pw p.In) q b K k).2.1],O++[(rowW m d (pw p.In) q b K k).2.2],ixm 0 (rowW m d (pw p.In) q b K k).1):=InvX.step v g
   obtain⟨t,Y,Z,C,aa,D⟩:=wN hm hd i l r s e k (by omega)
   generalize rowW m d (pw p.In) q b K k=F at *
   have H:¬(256:Int)<(F.1.length:Int):=λh=>hM ⟨F.1,by omega,o.1.nod,t,o.2.2.2⟩
   have ab:=(C7.1 (D j _ g)).1
   simp only[w,decide_true,cond_true,bT,g,GA,y,L,G,bV,H,decide_false,cond_false]
   rw[app1 (by omega) rfl,GA,app1 (by omega) rfl,GA,wr' (by omega) (by omega)]
   refine⟨_,rfl,by omega,by dsimp only;omega,⟨t,by dsimp only;omega,by dsimp only;omega,by simp;omega,by simp;omega,λx c=>?_,rfl,by dsimp only;omega⟩,o⟩
   rcases E4.1 c with c|c
   .exact z x c
   .rw[E7.1 c];exact C
  .simp only[w,decide_false,cond_false]
   exact⟨_,rfl,u,v,by dsimp only;omega⟩) (2 ^ 64) 0 ([(0,0)],0,[],[],ixm 0 [(0,0)]) (by omega) ⟨rfl,⟨λk hk=>by
   rw[E7.1 hk]
   exact⟨by simp,by show(0:Int)<_;omega,by simp,by show(0:Int)<_;omega⟩,by simp,by simp,by simp,by simp,by simp,rfl,by simp⟩,InvX.init m d (pw p.In) k⟩ (by omega)
 match U,n with
 |.inr a,n=>exact⟨a,E,n⟩
theorem yD:∃(w:watch) (K:List Key),pg p m d=some (some w,true)/\WK p m d k K w:=by
 obtain⟨_,_,E,_⟩:=eb hd
 obtain⟨a,s,t,v,hl⟩:=A7 hs hm hd hk hM
 have z:mset kwI2 ([]:List (Key×Int)) ((0,0):Key) 0=some (ixm 0 [(0,0)]):=by decide
 obtain⟨u,G,H,I,L,M,N,B⟩:=t
 obtain⟨r,Q,D,_⟩:=v
 have y:∀(c:VP) (e:VP),c.foldl (λb g=>b++[partP a.1 g]) e=e++c.map (partP a.1):=λc=>by
  induction c with
  |nil=>intro e;simp
  |cons x c A=>intro e;rw[Hh,A];simp
 obtain⟨l,_⟩:=vm (f:=kB d a) (λb g=>b++[partP a.1 g]) (λj b=>b.length=j) (xs:=d.Pairs) (λi g b o hs=>by
  have F:=(C7.1 o).1
  refine⟨?_,by simp[hs]⟩
  unfold kB
  rw[bT,o,GA,D0 (by omega),GA]
  simp only[bV]
  rw[app1 (by omega) rfl];rfl) (s:=[]) rfl
 rw[y,G0]at l
 rw[show a.2.1.toNat=a.1.length by omega]at r
 refine⟨⟨a.2.2.1,a.2.2.2.1,d.Pairs.map (partP a.1)⟩,a.1,?_,r,u,B,⟨by dsimp only;omega,λj P n=>?_⟩,rfl⟩
 .unfold pg
  rw[z,GA,s,GA]
  simp only[bV]
  rw[l];rfl
 .have hj:=(C7.1 n).1
  have hjl:j<a.2.2.2.1.length:=by omega
  obtain⟨O,q,C⟩:=D j _ (ct hjl)
  rw[n]at q
  cases q
  show a.2.2.2.1[j]? =_
  rw[ct hjl,C]
end
theorem Cv {p:Sig}(hs:sigOk p=true){a:VC}(hb:∀c∈a,Clause.bd c) (d:dI p a=true) (q:a.length<=2){m:Machine}(hm:machOk p m=true) (i:∀D k,cU p a=some (D,true)->pw p.In=((k:Nat):Int)->¬ManyK m D (pw p.In) k):
 ∃n k D K w,AK p m a n k D K w/\cU p a=some (D,true)/\nh p m a=some (some w,true):=by
 rcases qg p hb with ⟨_,_,f⟩|⟨_,_,n,D,j,_,g,hd,hl,b,e⟩
 .have:=f hs d
  omega
 .have r:=iD p.In
  obtain⟨k,hk⟩:=dD (z:=pw p.In) (by omega)
  obtain⟨w,K,l,o⟩:=yD hs hm hd hk (i D k b hk)
  refine⟨n,k,D,K,w,⟨hs,hm,d,j,hk,g,hd,hl,o⟩,b,?_⟩
  unfold nh
  rw[jv,hs,kW hs,hm,e]
  simp only[GA,F7,cond_false,l]
def atL (L:VI) (q:Int):Int:=L.getD q.toNat 0
theorem oU {L:VI}{q:Int}(b:0<=q) (c:q<L.length):idx L q=some (atL L q):=by
 obtain⟨x,a,_⟩:=g8 (xs:=L) b c
 unfold atL
 rw[a]
 rw[cN b]at a
 rw[bR,a,Hc]
def near (m:Machine) (L:VI) (p q:Nat):Bool:=
 decide (atL L p=atL L q)&&(decide (m.Out.getD p []=m.Out.getD q [])&&decide ((m.Next.getD p []).map (atL L)=(m.Next.getD q []).map (atL L)))
theorem rL (m:Machine) (L:VI) (q:Nat):near m L q q=true:=by simp[near]
structure Mok (l:Int) (n:Nat) (m:Machine):Prop where
 hn:1<=n/\n<=48
 next:m.Next.length=n
 out:m.Out.length=n
 nx:∀q,q<n->∃row,m.Next[q]? =some row/\m.Next.getD q []=row/\(row.length:Int)=l/\∀x∈row,0<=x/\x<n
 ou:∀q,q<n->∃row,m.Out[q]? =some row/\m.Out.getD q []=row/\(row.length:Int)=l
 hl:0<=l/\l<=4
theorem Mok.of {p:Sig}{m:Machine}(h:machOk p m=true):Mok (pw p.In) m.Next.length m:=by
 obtain⟨c,d,e,f,g⟩:=gi h
 have i:=iD p.In
 refine⟨⟨c,d⟩,rfl,e,λq a=>?_,λq a=>?_,by omega⟩
 .refine⟨m.Next[q],ct a,by simp[a],?_⟩
  exact f _ (List.getElem_mem a)
 .have b:q<m.Out.length:=by omega
  refine⟨m.Out[q],ct b,by simp[b],?_⟩
  exact(g _ (List.getElem_mem b)).1
theorem qM {m:Machine}{L:VI}{p q:Nat}(h:near m L p q=true):atL L p=atL L q/\m.Out.getD p []=m.Out.getD q []:=by
 simp only[near,ra,decide_eq_true_eq]at h
 exact⟨h.1,h.2.1⟩
def firstN (c:Nat->Bool) (q:Nat):Nat:=((GO (q+1)).find? c).getD q
theorem se {c:Nat->Bool}{q:Nat}(h:c q=true):firstN c q<=q/\c (firstN c q)=true/\∀p,p<firstN c q->c p=false:=by
 unfold firstN
 cases a:(GO (q+1)).find? c with
 |none=>
  rw[List.find?_eq_none]at a
  exact absurd h (a q (by simp))
 |some p=>
  rw[List.find?_range_eq_some]at a
  obtain⟨b,d,e⟩:=a
  rw[List.mem_range]at d
  refine⟨by show p<=q;omega,b,λi f=>?_⟩
  have:=e i f
  simpa using this
theorem j4 (m:Machine) (L:VI) (q:Nat):firstN (λp=>near m L p q) q<=q/\near m L (firstN (λp=>near m L p q) q) q=true/\∀p,p<firstN (λp=>near m L p q) q->near m L p q=false:=se (c:=λp=>near m L p q) (rL m L q)
theorem xC {c:Nat->Bool}{q p:Nat}(h:c q=true) (d:c p=true) (f:∀i,i<p->c i=false):p=firstN c q:=by
 obtain⟨g,b,e⟩:=se h
 rcases Nat.lt_trichotomy p (firstN c q) with a|a|a
 .rw[e p a]at d;cases d
 .exact a
 .rw[f _ a]at b;cases b
def dO (m:Machine) (L:VI):VI:=(GO L.length).map (λq=>((firstN (λp=>near m L p q) q:Nat):Int))
theorem fE (m:Machine) (L:VI):(dO m L).length=L.length:=by simp[dO]
theorem oB {m:Machine}{L:VI}{q:Nat}(a:q<L.length):atL (dO m L) q=(firstN (λp=>near m L p q) q:Nat):=by
 simp[atL,dO,a]
def Low (L:VI):Prop:=∀q:Nat,q<L.length->0<=atL L q/\atL L q<=q
theorem mN (m:Machine) (L:VI):Low (dO m L):=λq a=>by
 rw[fE]at a
 rw[oB a]
 have:=(j4 m L q).1
 omega
theorem BN {m:Machine}{L:VI}(h:Low L){q:Nat}(d:q<L.length):atL L q<=atL (dO m L) q:=by
 rw[oB d]
 obtain⟨e,b,_⟩:=j4 m L q
 have a:=(h (firstN (λp=>near m L p q) q) (by omega)).2
 have c:=(qM b).1
 rw[c]at a
 exact a
def sumL:VI->Int
 | []=>0
 |x::xs=>x+sumL xs
theorem Au:∀{xs ys:VI},xs.length=ys.length->(∀(i:Nat) x y,xs[i]? =some x->ys[i]? =some y->x<=y)->sumL xs<=sumL ys/\(sumL xs=sumL ys->xs=ys)
 | [],[],_,_=>⟨Ga _,λ_=>rfl⟩
 | [],_::_,h,_=>by cases h
 |_::_,[],h,_=>by cases h
 |x::xs,y::ys,h,hh=>by
  have e:=hh 0 x y rfl rfl
  obtain⟨f,d⟩:=Au (xs:=xs) (ys:=ys) (by simpa using h) λi a b ha hb=>hh (i+1) a b (by simpa using ha) (by simpa using hb)
  refine⟨by simp only[sumL];omega,λc=>?_⟩
  simp only[sumL]at c
  rw[d (by omega),show x=y from by omega]
theorem xd {n:Int}:∀{xs:VI},(∀x∈xs,0<=x/\x<=n)->0<=sumL xs/\sumL xs<=xs.length * n
 | [],_=>by simp[sumL]
 |x::xs,h=>by
  have d:=h x (Gi ..)
  have e:=xd (n:=n) (xs:=xs) λb a=>h b (FG _ a)
  simp only[sumL,E1]
  have c:((xs.length+1:Nat):Int) * n=xs.length * n+n:=by rw[Int.natCast_add,Int.add_mul];simp
  omega
def left (L:VI):Nat:=(2400-sumL L).toNat
theorem yO {L:VI}{q:Nat}{x:Int}(h:L[q]? =some x):atL L q=x:=by simp[atL,h]
theorem zZ {L:VI}(h:Low L) (hl:L.length<=48):∀x∈L,0<=x/\x<=48:=λx c=>by
 obtain⟨q,a⟩:=List.mem_iff_getElem?.1 c
 have b:=(C7.1 a).1
 have:=h q b
 rw[yO a]at this
 omega
theorem zY {m:Machine}{L:VI}(h:Low L) (hl:L.length<=48) (f:dO m L≠L):left (dO m L)<left L:=by
 have b:=Au (xs:=L) (ys:=dO m L) (fE m L).symm λi x l d g=>by
  have c:=(C7.1 d).1
  have:=BN (m:=m) h c
  rw[yO d,yO g]at this
  exact this
 have c:sumL L<sumL (dO m L):=by
  rcases Int.lt_or_eq_of_le b.1 with a|a
  .exact a
  .exact absurd (b.2 a).symm f
 have e:(dO m L).length<=48:=by rw[fE];exact hl
 have j:=xd (zZ (mN m L) e)
 have k:((dO m L).length:Int) * 48<=48 * 48:=Int.mul_le_mul_of_nonneg_right (by omega) (by omega)
 unfold left
 omega
def rest (m:Machine):Nat->VI->VI
 |0,L=>L
 |k+1,L=>if dO m L=L then L else rest m k (dO m L)
theorem yj {m:Machine}:∀(k:Nat) (L:VI),Low L->Low (rest m k L)/\(rest m k L).length=L.length
 |0,L,h=>⟨h,rfl⟩
 |k+1,L,h=>by
  simp only[rest]
  split
  .exact⟨h,rfl⟩
  .have:=yj (m:=m) k _ (mN m L)
   rw[fE]at this
   exact this
section
variable {l:Int}{n:Nat}{m:Machine}(hm:Mok l n m)
include hm
theorem yR {q:Nat}(g:q<n) (p:Nat):near m (FK n 0) p q=decide (m.Out.getD p []=m.Out.getD q [])\/n<=p:=by
 by_cases hp:p<n
 .left
  have h0:∀x:Int,atL (FK n 0) x=0:=λx=>by
   unfold atL
   rw[bR,List.getElem?_replicate]
   split <;> rfl
  unfold near
  obtain⟨c,j,e,k,l⟩:=hm.nx p hp
  obtain⟨d,o,f,r,s⟩:=hm.nx q g
  have:c.map (atL (FK n 0))=d.map (atL (FK n 0)):=by
   have b:∀a:VI,a.map (atL (FK n 0))=FK a.length 0:=λa=>by
    induction a with
    |nil=>rfl
    |cons x a i=>rw[List.map_cons,i,h0];rfl
   rw[b,b,show c.length=d.length from by omega]
  rw[e,f,this,h0,h0]
  simp
 .exact .inr (by omega)
end
section
variable {l:Int}{n:Nat}{m:Machine}(hm:Mok l n m)
include hm
def Apart (m:Machine) (L:VI):Prop:=∀p q:Nat,p<L.length->q<L.length->atL L p=atL L q->m.Out.getD p []=m.Out.getD q []
omit hm in
theorem sq (m:Machine) (L:VI):Apart m (dO m L):=λp q hp e c=>by
 rw[fE]at hp e
 rw[oB hp,oB e]at c
 have a:=(j4 m L p).2.1
 have b:=(j4 m L q).2.1
 have a:=qM a
 have b:=qM b
 have c:firstN (λd=>near m L d p) p=firstN (λd=>near m L d q) q:=by omega
 rw[← a.2,← b.2,c]
omit hm in
theorem vK {f:Int->VI->Option (VI⊕(VI⊕VI))}{c:Nat->Bool}{q:Nat}{s:VI}(a:c q=true)
 (h:∀i:Nat,i<=q->f (i:Int) s=some (if c i then .inr (.inl (s.set q (i:Int))) else .inr (.inr s))):∀(k j:Nat),j+k=q+1->(∀i,i<j->c i=false)->cntM f k (j:Int) s=some (.inr (s.set q ((firstN c q:Nat):Int)))
 |0,j,hj,hall=>by rw[hall q (by omega)]at a;cases a
 |k+1,j,hj,hall=>by
  show FR (f j s) _=_
  rw[h j (by omega),GA]
  cases b:c j with
  |true=>
   rw[← xC a b hall]
   rfl
  |false=>
   simp only[C4,if_false,lU]
   have:=vK a h k (j+1) (by omega) λi e=>by
    by_cases d:i=j
    .rw[d];exact b
    .exact hall i (by omega)
   exact this
omit hm in
theorem sy {f:Int->VI->Option (VI⊕(VI⊕VI))}(c:Nat->Bool){q:Nat}{s:VI}(b:c q=true) (hs:q<s.length)
 (h:∀i:Nat,i<=q->f (i:Int) s=some (if c i then .inr (.inl (s.set q (i:Int))) else .inr (.inr s))):cntM f (q+1) 0 s=some (.inr (s.set q ((firstN c q:Nat):Int))):=by
 exact vK b h (q+1) 0 (by omega) λi a=>absurd a (Gy i)
theorem CH:cntM (eG m) n 0 (FK n (0:Int))=some (.inr (dO m (FK n 0))):=by
 obtain⟨B,C⟩:=hm.hn
 obtain⟨a,u,e,d⟩:=cg (f:=eG m) (λj (a:VI)=>a.length=n/\∀q:Nat,q<j->a[q]? =some ((firstN (λp=>near m (FK n 0) p q) q:Nat):Int)) n (s:=FK n (0:Int)) ⟨by simp,λq c=>absurd c (Gy q)⟩ (λj a hj ⟨e,d⟩=>by
  unfold eG
  have x:FW .i64 ((j:Int)+1)=((j+1:Nat):Int):=by rw[wr' (by omega) (by omega)];omega
  have w:rng ((j+1:Nat):Int)=some ():=by unfold rng;rw[if_pos (by omega)]
  obtain⟨k,r,s,z⟩:=hm.ou j hj
  have hs:=sy (f:=gH m j) (λp=>near m (FK n 0) p j) (q:=j) (s:=a) (rL _ _ _) (by omega) (λi A=>by
   obtain⟨g,l,o,y⟩:=hm.ou i (by omega)
   unfold gH
   have v:=(yR hm hj i).resolve_right (by omega)
   rw[v,o,s,bT,bT,l,r]
   simp only[GA,eR]
   have:idx a (j:Int)=some (a[j]'(by omega)):=by rw[bT];exact ct (by omega)
   by_cases b:k=g
   .subst b
    simp only[decide_true,cond_true,this,GA,qZ (show j<a.length by omega),if_true]
   .have t:¬g=k:=λh=>b h.symm
    simp[b,t])
  rw[x,w,GA,Int.sub_zero,Gb,hs]
  refine⟨_,rfl,by rw[List.length_set];exact e,λq c=>?_⟩
  by_cases b:q=j
  .subst b;rw[List.getElem?_set_self (by omega)]
  .rw[List.getElem?_set_ne (λh=>b h.symm)]
   exact d q (by omega))
 rw[u]
 congr 2
 apply Fv
 intro q
 by_cases c:q<n
 .rw[d q c];simp[dO,c]
 .rw[GG (by omega),GG (by rw[fE];simp;omega)]
theorem DY {L:VI}(hL:L.length=n) (ha:Apart m L){p q:Nat}(hp:p<n) (B:q<n){row:VI}(r:m.Next[q]? =some row):
 cntM (er m L q p) row.length 0 (atL L q==atL L p)=some (.inr (near m L p q)):=by
 obtain⟨b,s,t,G,u⟩:=hm.nx p hp
 obtain⟨a,o,v,H,w⟩:=hm.nx q B
 rw[o]at r
 obtain rfl:a=row:=GS r
 obtain⟨e,i,k⟩:=cg (f:=er m L q p) (λj (e:Bool)=>e=(decide (atL L p=atL L q)&&decide ((b.map (atL L)).take j=(a.map (atL L)).take j))) a.length (s:=(atL L q==atL L p)) (by
  by_cases g:atL L p=atL L q
  .simp[g]
  .have z:¬atL L q=atL L p:=λh=>g h.symm
   simp[g,z]) (λj e hj hs=>by
  have c:b[j]? =some (b[j]'(by omega)):=ct (by omega)
  have d:a[j]? =some (a[j]'(by omega)):=ct (by omega)
  generalize b[j]'(by omega)=x at c
  generalize a[j]'(by omega)=y at d
  obtain⟨E,I⟩:=u x (FI c)
  obtain⟨F,K⟩:=w y (FI d)
  unfold er
  rw[bT,bT,s,o]
  simp only[GA,bT,c,d,oU E (by omega:x<L.length),oU F (by omega:y<L.length),andE]
  refine⟨_,rfl,?_⟩
  have C:(b.map (atL L)).take (j+1)=(b.map (atL L)).take j++[atL L x]:=by rw[Gv,FA,c];rfl
  have D:(a.map (atL L)).take (j+1)=(a.map (atL L)).take j++[atL L y]:=by rw[Gv,FA,d];rfl
  have A:((b.map (atL L)).take j).length=((a.map (atL L)).take j).length:=by simp;omega
  rw[C,D,hs,Bool.and_assoc]
  congr 1
  rw[Bool.eq_iff_iff]
  simp only[ra,decide_eq_true_eq,beq_iff_eq]
  constructor
  .rintro⟨i,k⟩
   rw[i,k]
  .intro h
   have:=List.append_inj h A
   exact⟨this.1,by simpa using this.2.symm⟩)
 rw[i,k]
 congr 2
 unfold near
 rw[t,v]
 rw[FN (by rw[Gg];omega),FN (by rw[Gg];omega)]
 by_cases l:atL L p=atL L q
 .have:=ha p q (by omega) (by omega) l
  rw[decide_eq_true l,decide_eq_true this]
  rfl
 .rw[decide_eq_false l]
  rfl
theorem D6 {L:VI}(hL:L.length=n) (ha:Apart m L):cntM (eI m L) L.length 0 (FK n (0:Int))=some (.inr (dO m L)):=by
 obtain⟨u,v⟩:=hm.hn
 obtain⟨a,k,g,c⟩:=cg (f:=eI m L) (λj (a:VI)=>a.length=n/\∀q:Nat,q<j->a[q]? =some ((firstN (λp=>near m L p q) q:Nat):Int)) L.length (s:=FK n (0:Int)) ⟨by simp,λq b=>absurd b (Gy q)⟩ (λj a hj ⟨g,c⟩=>by
  unfold eI
  have o:FW .i64 ((j:Int)+1)=((j+1:Nat):Int):=by rw[wr' (by omega) (by omega)];omega
  have l:rng ((j+1:Nat):Int)=some ():=by unfold rng;rw[if_pos (by omega)]
  obtain⟨w,d,r,s⟩:=hm.nx j (by omega)
  have hs:=sy (f:=gJ m L j) (λp=>near m L p j) (q:=j) (s:=a) (rL _ _ _) (by omega) (λi t=>by
   unfold gJ
   rw[oU (by omega) (by omega),GA,oU (by omega) (by omega),GA,bT,d,GA,DY hm hL ha (by omega) (by omega) d,GA,bV]
   have:idx a (j:Int)=some (a[j]'(by omega)):=by rw[bT];exact ct (by omega)
   cases near m L i j with
   |true=>simp only[cond_true,this,GA,qZ (show j<a.length by omega),if_true]
   |false=>rfl)
  rw[o,l,GA,Int.sub_zero,Gb,hs]
  refine⟨_,rfl,by rw[List.length_set];exact g,λq b=>?_⟩
  by_cases e:q=j
  .subst e;rw[List.getElem?_set_self (by omega)]
  .rw[List.getElem?_set_ne (λh=>e h.symm)]
   exact c q (by omega))
 rw[k]
 congr 2
 apply Fv
 intro q
 by_cases b:q<n
 .rw[c q (by omega)];simp[dO,b,hL]
 .rw[GG (by omega),GG (by rw[fE];omega)]
theorem Bq:∀(k K:Nat) (L:VI),L.length=n->Low L->Apart m L->left L<k->k<=K->ci (eH m) K L=some (.inl (rest m k L))
 |0,_,_,_,_,_,h,_=>absurd h (Gy _)
 |k+1,K,L,hL,hlow,ha,hk,hK=>by
  obtain⟨b,c⟩:=hm.hn
  rw[jF (by omega)]
  have hb:eH m L=some (if dO m L=L then .inl L else .inr (.inr (dO m L))):=by
   unfold eH
   rw[dq (by omega) rfl,GA,hL]
   have:=D6 hm hL ha
   rw[hL]at this
   rw[this,GA,bV,eR,GA]
   by_cases a:dO m L=L
   .simp[a]
   .simp[a]
  rw[hb,GA]
  simp only[rest]
  by_cases a:dO m L=L
  .rw[if_pos a,if_pos a];rfl
  .rw[if_neg a,if_neg a,lU]
   have:=zY (m:=m) hlow (by omega) a
   exact Bq k (K-1) _ (by rw[fE];exact hL) (mN m L) (sq m L) (by omega) (by omega)
end
theorem uh {m:Machine}:∀(k:Nat) (L:VI),Low L->L.length<=48->left L<k->dO m (rest m k L)=rest m k L
 |0,_,_,_,h=>absurd h (Gy _)
 |k+1,L,hlow,hl,h=>by
  simp only[rest]
  by_cases a:dO m L=L
  .rw[if_pos a,a]
  .rw[if_neg a]
   have:=zY hlow hl a
   exact uh k _ (mN m L) (by rw[fE];exact hl) (by omega)
def Stable (m:Machine) (n:Nat) (E:Nat->Nat->Prop):Prop:=∀p q,p<n->q<n->E p q->m.Out.getD p []=m.Out.getD q []/\∀(i:Nat) a b,(m.Next.getD p [])[i]? =some a->(m.Next.getD q [])[i]? =some b->E a.toNat b.toNat
theorem yS {m:Machine}{L:VI}(h:dO m L=L){q:Nat}(c:q<L.length):∃p:Nat,atL L q=(p:Int)/\p<=q/\near m L p q=true:=by
 obtain⟨a,b,d⟩:=j4 m L q
 refine⟨_,?_,a,b⟩
 have:=oB (m:=m) c
 rw[h]at this
 exact this
def stepN (L:VI) (s:VI×VI) (x:Int):VI×VI:=(addN s.1 (atL L x),s.2++[df (addN s.1 (atL L x)) (atL L x)])
theorem tA {n:Nat}{L:VI}(hL:Low L) (hl:L.length=n) (i:n<=48):∀(row:VI) (s:VI×VI),(∀x∈row,0<=x/\x<n)->Names n s.1 ->
 Names n (row.foldl (stepN L) s).1/\(row.foldl (stepN L) s).2.length=s.2.length+row.length/\∀(k:Nat) a,s.1[k]? =some a->(row.foldl (stepN L) s).1[k]? =some a
 | [],s,_,h=>⟨h,rfl,λ_ _ h=>h⟩
 |x::row,s,hr,h=>by
  obtain⟨m,o⟩:=hr x (Gi ..)
  have b:=hL x.toNat (by omega)
  rw[show((x.toNat:Nat):Int)=x from by omega]at b
  obtain⟨c,d⟩:=h.add (u:=atL L x) b.1 (by omega)
  obtain⟨e,f,g⟩:=tA hL hl i row (stepN L s x) (λl j=>hr l (FG _ j)) c
  rw[Hh]
  refine⟨e,?_,λk a hk=>g k a (d k a hk)⟩
  rw[f]
  simp[stepN];omega
section
variable {l:Int}{n:Nat}{m:Machine}(hm:Mok l n m){L:VI}(hL:Low L) (hl:L.length=n)
include hm hL hl
omit hm in
theorem BF {x:Int}(b:0<=x) (c:x<n):0<=atL L x/\atL L x<n:=by
 have a:=hL x.toNat (by omega)
 rw[show((x.toNat:Nat):Int)=x from by omega]at a
 omega
theorem EO {c:VI}(i:Names n c){row:VI}(l:∀x∈row,0<=x/\x<n) (k:row.length<=4):cntM (iJ L row) row.length 0 (c,[])=some (.inr (row.foldl (stepN L) (c,[]))):=by
 obtain⟨t,u⟩:=hm.hn
 refine(vm (f:=iJ L row) (stepN L) (λj b=>Names n b.1/\b.2.length=j) (λj x b hj ⟨e,r⟩=>?_) ⟨i,rfl⟩).1
 obtain⟨g,p⟩:=l x (FI hj)
 obtain⟨m,o⟩:=BF hL hl g p
 have s:=(C7.1 hj).1
 have k:=e.len
 obtain⟨d,q⟩:=e.add m o
 unfold iJ
 rw[bT,hj,GA,oU g (by omega),GA,oz,GA,BQ]
 by_cases a:atL L x∈b.1
 .simp only[a,decide_true,F7,cond_false,GA]
  rw[app1 (by omega) rfl]
  refine⟨?_,d,by simp[stepN];omega⟩
  simp[stepN,addN,a]
 .simp only[a,decide_false,Bool.not_false,cond_true,GA]
  rw[app1 (by omega) rfl,GA,GA]
  dsimp only
  rw[app1 (by omega) rfl]
  refine⟨?_,d,by simp[stepN];omega⟩
  simp[stepN,addN,a,vB a]
end
def Ext (A B:VI):Prop:=∀(k:Nat) v,A[k]? =some v->B[k]? =some v
theorem Ext.trans {A B C:VI}(b:Ext A B) (c:Ext B C):Ext A C:=λk a h=>c k a (b k a h)
theorem AQ {N:VI}(h:N.Nodup){i j:Nat}{u:Int}(hi:N[i]? =some u) (hj:N[j]? =some u):i=j:=by
 have c:=(C7.1 hi)
 have d:=(C7.1 hj)
 obtain⟨e,a⟩:=c
 obtain⟨f,b⟩:=d
 exact(List.getElem_inj h).1 (by rw[a,b])
theorem ss {N:VI}(h:N.Nodup){i:Nat}{u:Int}(hi:N[i]? =some u):df N u=(i:Int):=
 yd hi λj hj a=>by have:=AQ h hi a;omega
theorem Cu (A:VI) (u:Int):u∈addN A u:=by
 unfold addN
 split
 .assumption
 .simp
section
variable {l:Int}{n:Nat}{m:Machine}(hm:Mok l n m){L:VI}(hL:Low L) (hl:L.length=n)
include hm hL hl
theorem tz {row:VI}(c:∀x∈row,0<=x/\x<n){s:VI×VI}(hs:Names n s.1):Names n (row.foldl (stepN L) s).1/\Ext s.1 (row.foldl (stepN L) s).1:=by
 obtain⟨a,_,b⟩:=tA hL hl hm.hn.2 row s c hs
 exact⟨a,b⟩
theorem xE {N:VI}(d:N.Nodup):∀(row:VI) (s:VI×VI),(∀x∈row,0<=x/\x<n)->Names n s.1->Ext (row.foldl (stepN L) s).1 N ->
 (row.foldl (stepN L) s).2=s.2++row.map (λx=>df N (atL L x))/\(∀x∈row,atL L x∈N)
 | [],s,_,_,_=>by simp
 |x::row,s,hr,hs,he=>by
  obtain⟨p,q⟩:=hr x (Gi ..)
  obtain⟨m,o⟩:=BF hL hl p q
  obtain⟨c,r⟩:=hs.add m o
  have g:∀a∈row,0<=a/\a<n:=λa b=>hr a (FG _ b)
  rw[Hh]at he ⊢
  obtain⟨t,j⟩:=tz hm hL hl g (s:=stepN L s x) c
  obtain⟨k,l⟩:=xE d row (stepN L s x) g c he
  obtain⟨i,f⟩:=List.mem_iff_getElem?.1 (Cu s.1 (atL L x))
  have e:=he i _ (j i _ f)
  have hp:df (addN s.1 (atL L x)) (atL L x)=df N (atL L x):=by rw[ss c.1 f,ss d e]
  refine⟨?_,λa b=>?_⟩
  .rw[k]
   simp[stepN,hp]
  .rcases E5.1 b with rfl|b
   .exact FI e
   .exact l a b
abbrev RSt:=VI×Int×VV×VV
def rowN (m:Machine) (s:RSt):VI:=m.Next.getD (s.1.getD s.2.1.toNat 0).toNat []
def roundL (m:Machine) (L:VI) (s:RSt):RSt:=
 (((rowN m s).foldl (stepN L) (s.1,[])).1,s.2.1+1,s.2.2.1++[((rowN m s).foldl (stepN L) (s.1,[])).2],s.2.2.2++[m.Out.getD (s.1.getD s.2.1.toNat 0).toNat []])
def red (m:Machine) (L:VI):Nat->RSt
 |0=>([0],0,[],[])
 |k+1=>roundL m L (red m L k)
structure RI (n:Nat) (m:Machine) (L:VI) (k:Nat):Prop where
 names:Names n (red m L k).1
 rep:∀v∈(red m L k).1,atL L v=v
 at_:(red m L k).2.1=(k:Int)
 zero:(red m L k).1[0]? =some 0
 lx:(red m L k).2.2.1.length=k
 lo:(red m L k).2.2.2.length=k
 rows:∀N:VI,N.Nodup->Ext (red m L k).1 N->∀(j:Nat) v,j<k->(red m L k).1[j]? =some v->(red m L k).2.2.1[j]? =some ((m.Next.getD v.toNat []).map (λx=>df N (atL L x)))/\(red m L k).2.2.2[j]? =some (m.Out.getD v.toNat [])/\∀x∈m.Next.getD v.toNat [],atL L x∈N
variable (hfix:∀q:Nat,q<n->atL L (atL L q)=atL L q)
include hfix
omit hfix in
theorem ri0:RI n m L 0:=by
 obtain⟨g,i⟩:=hm.hn
 have h0:=hL 0 (by omega)
 have d:Names n (red m L 0).1:=by
  refine⟨by show[(0:Int)].Nodup;simp,λx f=>?_⟩
  have:x=0:=by simpa [red] using f
  omega
 refine⟨d,λa e=>?_,rfl,rfl,rfl,rfl,λN _ _ j a hj=>absurd hj (Gy j)⟩
 have:a=0:=by simpa [red] using e
 subst this
 have b:=h0.1
 have c:=h0.2
 simp only[Int.natCast_zero]at b c
 omega
omit hm hL hl hfix in
theorem B6 {k:Nat}(h:RI n m L k){q:Int}(b:(red m L k).1[k]? =some q):0<=q/\q<n/\rowN m (red m L k)=m.Next.getD q.toNat []/\(red m L k).1.getD (red m L k).2.1.toNat 0=q:=by
 obtain⟨c,d⟩:=h.names.2 q (FI b)
 have a:(red m L k).1.getD (red m L k).2.1.toNat 0=q:=by
  rw[h.at_,Gb,bR,b];rfl
 exact⟨c,d,by unfold rowN;rw[a],a⟩
theorem Dj {k:Nat}(h:RI n m L k) (hk:k<(red m L k).1.length):RI n m L (k+1)/\Ext (red m L k).1 (red m L (k+1)).1:=by
 have l:(red m L k).1[k]? =some ((red m L k).1[k]'hk):=ct hk
 generalize(red m L k).1[k]'hk=q at l
 obtain⟨P,Q,i,B⟩:=B6 h l
 obtain⟨f,R,K,S,M⟩:=hm.nx q.toNat (by omega)
 have o:∀x∈rowN m (red m L k),0<=x/\x<n:=by rw[i,K];exact M
 obtain⟨w,d⟩:=tz hm hL hl o (s:=((red m L k).1,[])) h.names
 have d:Ext (red m L k).1 (red m L (k+1)).1:=d
 refine⟨⟨w,λb c=>?_,?_,d 0 _ h.zero,?_,?_,?_⟩,d⟩
 · -- a new name is a kind
   have I:∀(f:VI) (e:VI×VI),(∀x∈f,0<=x/\x<n)->(∀b∈e.1,atL L b=b)->∀b∈(f.foldl (stepN L) e).1,atL L b=b:=λf=>by
    induction f with
    |nil=>intro e _ h;exact h
    |cons x f H=>
     intro e v h
     refine H (stepN L e x) (λO G=>v O (FG _ G)) λb c=>?_
     have c:b∈addN e.1 (atL L x):=c
     unfold addN at c
     split at c
     .exact h b c
     .rw[E4,E7]at c
      rcases c with c|rfl
      .exact h b c
      .obtain⟨T,U⟩:=v x (Gi ..)
       have:=hfix x.toNat (by omega)
       rw[show((x.toNat:Nat):Int)=x from by omega]at this
       exact this
   exact I _ _ o h.rep b c
 .show(red m L k).2.1+1=_
  rw[h.at_];omega
 .show((red m L k).2.2.1++[_]).length=_
  rw[C9,h.lx];rfl
 .show((red m L k).2.2.2++[_]).length=_
  rw[C9,h.lo];rfl
 .intro N t u j b hj c
  have C:Ext ((rowN m (red m L k)).foldl (stepN L) ((red m L k).1,[])).1 N:=u
  obtain⟨r,s⟩:=xE hm hL hl t (rowN m (red m L k)) ((red m L k).1,[]) o h.names C
  by_cases g:j<k
  .have E:(red m L k).1[j]? =some b:=by
    have D:j<(red m L k).1.length:=by omega
    have p:=ct D
    rw[p,← d j _ p,c]
   obtain⟨y,z,A⟩:=h.rows N t (Ext.trans d u) j b g E
   refine⟨?_,?_,A⟩
   .show((red m L k).2.2.1++[_])[j]? =_
    rw[Fw (by rw[h.lx];exact g)];exact y
   .show((red m L k).2.2.2++[_])[j]? =_
    rw[Fw (by rw[h.lo];exact g)];exact z
  .have g:j=k:=by omega
   subst g
   have F:b=q:=by
    have:=d j q l
    rw[c]at this
    exact GS this
   subst F
   rw[i]at r s
   refine⟨?_,?_,s⟩
   .show((red m L j).2.2.1++[((rowN m (red m L j)).foldl (stepN L) ((red m L j).1,[])).2])[j]? =_
    rw[Fx (by rw[h.lx];exact Fg _),h.lx,Nat.sub_self,i,r]
    simp
   .show((red m L j).2.2.2++[_])[j]? =_
    rw[Fx (by rw[h.lo];exact Fg _),h.lo,Nat.sub_self,B]
    rfl
theorem Dg:∃T:Nat,(∀k,k<=T->RI n m L k)/\(∀k,k<T->k<(red m L k).1.length)/\(red m L T).1.length=T/\∀k,k<=T->Ext (red m L k).1 (red m L T).1:=by
 have p:∀(d k:Nat),n+1-k<=d->RI n m L k->k<=(red m L k).1.length->∃T:Nat,k<=T/\(∀j,k<=j->j<=T->RI n m L j)/\(∀j,k<=j->j<T->j<(red m L j).1.length)/\(red m L T).1.length=T/\∀j,k<=j->j<=T->Ext (red m L j).1 (red m L T).1:=by
  intro d
  induction d with
  |zero=>intro k hd h hk;have:=h.names.len;omega
  |succ d r=>
   intro k hd h hk
   by_cases f:k<(red m L k).1.length
   .obtain⟨s,o⟩:=Dj hm hL hl hfix h f
    have q:k+1<=(red m L (k+1)).1.length:=by
     have b:=ct f
     have:=(C7.1 (o k _ b)).1
     omega
    obtain⟨T,t,g,i,l,e⟩:=r (k+1) (by omega) s q
    refine⟨T,by omega,λj c a=>?_,λj c a=>?_,l,λj c a=>?_⟩
    .by_cases b:j=k
     .rw[b];exact h
     .exact g j (by omega) a
    .by_cases b:j=k
     .rw[b];exact f
     .exact i j (by omega) a
    .by_cases b:j=k
     .rw[b];exact Ext.trans o (e (k+1) (Fg _) t)
     .exact e j (by omega) a
   .refine⟨k,Fg _,λj c a=>?_,λj c a=>by omega,by omega,λj c a=>?_⟩
    .rw[show j=k from by omega];exact h
    .rw[show j=k from by omega];exact λ_ _ h=>h
 obtain⟨T,_,g,i,l,e⟩:=p (n+1) 0 (by omega) (ri0 hm hL hl) (Gz _)
 exact⟨T,λk hk=>g k (Gz _) hk,λk hk=>i k (Gz _) hk,l,λk hk=>e k (Gz _) hk⟩
end
structure Kinds (n:Nat) (m:Machine) (L:VI) (N:VI) (r:Machine):Prop where
 names:Names n N
 rep:∀v∈N,atL L v=v
 zero:N[0]? =some 0
 nx:r.Next.length=N.length
 ou:r.Out.length=N.length
 rows:∀(k:Nat) v,N[k]? =some v->r.Next[k]? =some ((m.Next.getD v.toNat []).map (λx=>df N (atL L x)))/\r.Out[k]? =some (m.Out.getD v.toNat [])/\∀x∈m.Next.getD v.toNat [],atL L x∈N
section
variable {l:Int}{n:Nat}{m:Machine}(hm:Mok l n m){L:VI}(hL:Low L) (hl:L.length=n) (hfix:∀q:Nat,q<n->atL L (atL L q)=atL L q)
include hm hL hl hfix
omit hfix in
theorem we {k:Nat}(h:RI n m L k) (hk:k<(red m L k).1.length):dS m L (red m L k)=some (.inr (.inr (red m L (k+1)))):=by
 obtain⟨E,F⟩:=hm.hn
 obtain⟨C,D⟩:=hm.hl
 have b:(red m L k).1[k]? =some ((red m L k).1[k]'hk):=ct hk
 generalize(red m L k).1[k]'hk=q at b
 obtain⟨c,H,e,f⟩:=B6 h b
 obtain⟨a,w,x,I,d⟩:=hm.nx q.toNat (by omega)
 obtain⟨out,u,v,G⟩:=hm.ou q.toNat (by omega)
 have z:=h.names.len
 have t:idx m.Next q=some a:=by rw[cN c];exact w
 have o:idx m.Out q=some out:=by rw[cN c];exact u
 have r:rowN m (red m L k)=a:=by rw[e,x]
 obtain⟨y,g⟩:=tz hm hL hl d (s:=((red m L k).1,[])) h.names
 have j:idx (red m L k).1 (red m L k).2.1=some q:=by rw[h.at_,bT];exact b
 have i:idx (a.foldl (stepN L) ((red m L k).1,[])).1 (red m L k).2.1=some q:=by rw[h.at_,bT];exact g k q b
 have l:(red m L k).2.1<((red m L k).1.length:Int):=by rw[h.at_];omega
 have A:=h.lx
 have B:=h.lo
 have p:red m L (k+1)=((a.foldl (stepN L) ((red m L k).1,[])).1,(red m L k).2.1+1,(red m L k).2.2.1++[(a.foldl (stepN L) ((red m L k).1,[])).2],(red m L k).2.2.2++[out]):=by
  show roundL m L (red m L k)=_
  unfold roundL
  rw[r,f,v]
 unfold dS
 simp only[l,decide_true,cond_true,j,t,GA,EO hm hL hl h.names d (by omega:a.length<=4),bV,i,o]
 rw[app1 (by omega) rfl,appL (by rw[Gh];omega) rfl]
 simp only[GA,G0]
 rw[app1 (by omega) rfl,GA,wr' (by rw[h.at_];omega) (by rw[h.at_];omega),p]
theorem CU:∃N b,FR (ci (dS m L) (2 ^ 64) ((([0]:VI):VI),(0:Int),([]:VV),([]:VV))) (λq=>
 aft (λb=>some b) (λg=>some ((⟨g.2.2.1,g.2.2.2⟩:Machine):Machine)) q)=some b/\Kinds n m L N b:=by
 obtain⟨u,v⟩:=hm.hn
 obtain⟨T,i,r,c,w⟩:=Dg hm hL hl hfix
 have a:=i T (Fg _)
 have t:=a.names.len
 have l:Kinds n m L (red m L T).1 ⟨(red m L T).2.2.1,(red m L T).2.2.2⟩:=by
  refine⟨a.names,a.rep,a.zero,by dsimp only;rw[a.lx,c],by dsimp only;rw[a.lo,c],λk s hk=>?_⟩
  have e:=(C7.1 hk).1
  exact a.rows _ a.names.1 (λ_ _ h=>h) k s (by omega) hk
 refine⟨(red m L T).1,⟨(red m L T).2.2.1,(red m L T).2.2.2⟩,?_,l⟩
 .have d:=zH (f:=dS m L) (red m L) T (2 ^ 64-T) (λk hk=>we hm hL hl (i k (by omega)) (r k hk))
  rw[show T+(2 ^ 64-T)=2 ^ 64 from by omega]at d
  rw[show(([0]:VI),(0:Int),([]:VV),([]:VV))=red m L 0 from rfl,d]
  obtain⟨j,p⟩:∃j,2 ^ 64-T=j+1:=⟨2 ^ 64-T-1,by omega⟩
  rw[p]
  have o:dS m L (red m L T)=some (.inr (.inl (red m L T))):=by
   unfold dS
   have e:¬(red m L T).2.1<((red m L T).1.length:Int):=by rw[a.at_,c];omega
   simp only[e,decide_false,cond_false]
  show FR (FR (dS m L (red m L T)) _) _=_
  rw[o]
  rfl
end
theorem DU {m:Machine}{L:VI}{n:Nat}(hl:L.length=n) (h:dO m L=L):∀q:Nat,q<n->atL L (atL L q)=atL L q:=λq c=>by
 obtain⟨p,a,d,b⟩:=yS h (by omega:q<L.length)
 rw[a]
 exact(qM b).1.trans a
def ofL (l:List UInt8):ByteArray:=⟨l.toArray⟩
theorem gj (l:List UInt8):(ofL l).data.toList=l:=rfl
theorem eN (l:List UInt8):(ofL l).size=l.length:=rfl
theorem oA (s:ByteArray):ofL s.data.toList=s:=by cases s;rfl
theorem C2 (a b:List UInt8):ofL a++ofL b=ofL (a++b):=by
 apply ByteArray.ext
 show(ofL a++ofL b).data=(a++b).toArray
 rw[ByteArray.data_append]
 show a.toArray++b.toArray=_
 simp
theorem fo {a b:List UInt8}(h:a.length+b.length<=9223372036854775807):catB (ofL a) (ofL b)=some (ofL (a++b)):=by
 unfold catB
 rw[eN,eN,if_pos h,C2]
theorem jG (a b:List UInt8):eqB (ofL a) (ofL b)=decide (a=b):=rfl
theorem rI {xs:List (List UInt8)}{sep:List UInt8}(c:xs.length<=100000000000000) (d:(Lib.join xs sep).length<=100000000000000):joinB (xs.map ofL) (ofL sep)=some (ofL (Lib.join xs sep)):=by
 have a:(xs.map ofL).map (λb=>b.data.toList)=xs:=by
  rw[List.map_map]
  conv=>rhs;rw[← List.map_id xs]
  apply List.map_congr_left
  intro x _;rfl
 unfold joinB
 rw[a,gj,if_pos ⟨by rw[Gg];omega,by omega⟩];rfl
theorem o7 {u:Nat}(h:u<10):Lib.decDigits u=[UInt8.ofNat (48+u)]:=by rw[Lib.decDigits,dif_pos h]
theorem zN {u:Nat}(h:¬u<10):Lib.decDigits u=Lib.decDigits (u / 10)++[UInt8.ofNat (48+u % 10)]:=by rw[Lib.decDigits,dif_neg h]
theorem oZ:∀a:Nat,(Lib.decDigits a).length<=a+1:=λa=>by
 induction a using Hj with
 |_ a ih=>
  by_cases h:a<10
  .rw[o7 h];simp
  .rw[zN h,C9]
   have:=ih (a / 10) (by omega)
   simp only[E1,Gh]
   omega
theorem Bw (u:Nat):Lib.itoa (u:Int)=Lib.decDigits u:=by
 unfold Lib.itoa
 rw[if_neg (by omega),Gb]
def sp (c:UInt8):List UInt8->List (List UInt8)
 | []=>[[]]
 |b::l=>if b=c then[]::sp c l else match sp c l with
  |w::ws=>(b::w)::ws
  | []=>[[b]]
theorem uD (c:UInt8):∀l,sp c l≠[]
 | []=>by simp[sp]
 |b::l=>by
  unfold sp
  split
  .simp
  .cases sp c l <;> simp
theorem eu {c b:UInt8}{l w:List UInt8}{ws:List (List UInt8)}(h:¬b=c) (a:sp c l=w::ws):sp c (b::l)=(b::w)::ws:=by
 unfold sp
 rw[if_neg h,a]
theorem mh {c:UInt8}(l:List UInt8):sp c (c::l)=[]::sp c l:=by
 rw[sp,if_pos rfl]
theorem Cf (c:UInt8):∀l,(sp c l).length<=l.length+1/\∀w∈sp c l,w.length<=l.length
 | []=>by simp[sp]
 |b::l=>by
  obtain⟨g,a⟩:=Cf c l
  by_cases h:b=c
  .subst h
   rw[mh]
   refine⟨by simp only[E1];omega,λw d=>?_⟩
   rcases E5.1 d with rfl|d
   .simp
   .have:=a w d;simp only[E1];omega
  .obtain⟨w,i,f⟩:=Hg (uD c l)
   rw[eu h f]
   rw[f]at g a
   refine⟨by simp only[E1]at g ⊢;omega,λx e=>?_⟩
   rcases E5.1 e with rfl|e
   .have:=a w (Gi ..)
    simp only[E1];omega
   .have:=a x (FG _ e);simp only[E1];omega
theorem tl (c x:UInt8):∀(l:List UInt8) (d:List (List UInt8)) (w:List UInt8),sp c l=d++[w]->sp c (l++[x])=if x=c then d++[w]++[[]] else d++[w++[x]]
 | [],d,w,h=>by
  have:d=[]/\w=[]:=by
   cases d with
   |nil=>simpa [sp] using h.symm
   |cons i d=>simp[sp]at h
  obtain⟨rfl,rfl⟩:=this
  by_cases a:x=c
  .subst a;simp[sp]
  .simp[sp,a]
 |b::l,d,w,h=>by
  by_cases hb:b=c
  .subst hb
   rw[mh]at h
   rw[Hf,mh]
   cases d with
   |nil=>
    simp only[G0,List.cons.injEq]at h
    exact absurd h.2 (uD _ _)
   |cons i d=>
    simp only[Hf,List.cons.injEq]at h
    obtain⟨rfl,h⟩:=h
    rw[tl b x l d w h]
    split <;> simp
  .obtain⟨e,f,g⟩:=Hg (uD c l)
   rw[eu hb g]at h
   cases d with
   |nil=>
    simp only[G0,List.cons.injEq]at h
    obtain⟨rfl,rfl⟩:=h
    have:=tl c x l [] e (by rw[g];rfl)
    rw[Hf]
    by_cases a:x=c
    .rw[if_pos a]at this ⊢
     rw[eu hb (w:=e) (ws:=[[]]) (by rw[this];rfl)]
     rfl
    .rw[if_neg a]at this ⊢
     rw[eu hb (w:=e++[x]) (ws:=[]) (by rw[this];rfl)]
     rfl
   |cons i d=>
    simp only[Hf,List.cons.injEq]at h
    obtain⟨rfl,rfl⟩:=h
    have:=tl c x l (e::d) w (by rw[g];rfl)
    rw[Hf]
    by_cases a:x=c
    .rw[if_pos a]at this ⊢
     rw[eu hb (w:=e) (ws:=d++[w]++[[]]) (by rw[this];rfl)]
     rfl
    .rw[if_neg a]at this ⊢
     rw[eu hb (w:=e) (ws:=d++[w++[x]]) (by rw[this];rfl)]
     rfl
theorem Ar (c:UInt8):∀l,Lib.join (sp c l) [c]=l
 | []=>by simp[sp,Lib.join_one]
 |b::l=>by
  have d:=Ar c l
  obtain⟨w,e,a⟩:=Hg (uD c l)
  rw[a,Lib.join_cons]at d
  by_cases hb:b=c
  .subst hb
   rw[mh,Lib.join_cons,a,G0]
   show((([b]++w)::(e.map ([b] ++ ·)))).flatten=_
   rw[List.flatten_cons]
   show[b]++w++Lib.joinTail [b] e=_
   rw[List.append_assoc,d];rfl
  .rw[eu hb a,Lib.join_cons,Hf,d]
theorem xb {c:UInt8}:∀{l:List UInt8},c∉l->sp c l=[l]
 | [],_=>rfl
 |b::l,h=>by
  have d:¬b=c:=λa=>h (by rw[a];exact Gi ..)
  exact eu d (xb λhm=>h (FG _ hm))
theorem re {c:UInt8}(r:List UInt8):∀{w:List UInt8},c∉w->sp c (w++c::r)=w::sp c r
 | [],_=>mh r
 |b::w,h=>by
  have d:¬b=c:=λa=>h (by rw[a];exact Gi ..)
  exact eu d (re r λhm=>h (FG _ hm))
theorem xa {c:UInt8}:∀{l w:List UInt8},w∈sp c l->c∉w
 | [],w,h=>by
  simp only[sp,E7]at h
  rw[h];simp
 |b::l,w,h=>by
  by_cases hb:b=c
  .subst hb
   rw[mh]at h
   rcases E5.1 h with rfl|h
   .simp
   .exact xa h
  .obtain⟨d,e,a⟩:=Hg (uD c l)
   rw[eu hb a]at h
   rcases E5.1 h with rfl|h
   .intro hm
    rcases E5.1 hm with hm|hm
    .exact hb hm.symm
    .exact xa (l:=l) (by rw[a];exact Gi ..) hm
   .exact xa (l:=l) (by rw[a];exact FG _ h)
theorem sk (b c:UInt8) (l:List UInt8):Lib.index (b::l) [c]=if b=c then 0 else if Lib.index l [c]== -1 then -1 else Lib.index l [c]+1:=by
 conv=>lhs;unfold Lib.index
 by_cases h:b=c
 .subst h;simp[List.isPrefixOf]
 .have:¬c=b:=λa=>h a.symm
  simp[List.isPrefixOf,h,this]
theorem pF (c:UInt8):∀(l:List UInt8) (k:Nat),l.count c<=k->Lib.splitK [c] 0 k l=sp c l
 | [],0,_=>rfl
 | [],k+1,_=>by
  have:(Lib.index [] [c]== -1)=true:=by simp[Lib.index]
  unfold Lib.splitK
  rw[if_pos this];rfl
 |b::l,k,h=>by
  by_cases hb:b=c
  .subst hb
   rw[List.count_cons_self]at h
   obtain⟨k,rfl⟩:∃j,k=j+1:=⟨k-1,by omega⟩
   unfold Lib.splitK
   rw[sk,if_pos rfl,mh]
   simp only[show((0:Int)== -1)=false from rfl,C4,if_false]
   show[]::Lib.splitK [b] 0 k l=_
   rw[pF b l k (by omega)]
  .rw[List.count_cons_of_ne hb]at h
   have a:=pF c l k h
   cases k with
   |zero=>
    have e:sp c l=[l]:=a.symm
    rw[eu hb e];rfl
   |succ k=>
    unfold Lib.splitK at a ⊢
    rw[sk,if_neg hb]
    by_cases d:(Lib.index l [c]== -1)=true
    .rw[if_pos d]at a
     rw[if_pos d]
     simp only[beq_self_eq_true,if_true]
     rw[eu hb a.symm]
    .rw[if_neg d]at a
     rw[if_neg d]
     have i:=Lib.index_ge l [c]
     have m:Lib.index l [c]≠ -1:=λe=>d (by rw[e];rfl)
     have f:((Lib.index l [c]+1)== -1)=false:=by rw[beq_eq_false_iff_ne];omega
     rw[f]
     simp only[C4,if_false]
     have g:(Lib.index l [c]+1).toNat=(Lib.index l [c]).toNat+1:=by omega
     rw[g,eu hb a.symm]
     simp only[Nat.add_zero,List.length_singleton]
     rfl
theorem qe {c:UInt8}{l:List UInt8}(h:l.length<4294967281):splitS (ofL l) (ofL [c])=some ((sp c l).map ofL):=by
 have hd:=Lib.splitB_data (ofL [c]) 0 (Lib.countB (ofL l) (ofL [c])) (ofL l)
 have a:Lib.countB (ofL l) (ofL [c])=l.count c:=Lib.count_one c l
 unfold splitS
 rw[if_pos ⟨h,by rw[eN];simp⟩,a]
 rw[a]at hd
 rw[gj,gj,pF c l _ (Fg _)]at hd
 rw[← hd,List.map_map]
 congr 1
 conv=>lhs;rw[← List.map_id (Lib.splitB _ _ _ _)]
 apply List.map_congr_left
 intro x _
 exact(oA x).symm
theorem r9 {α:Type}{l:List α}{i:Nat}{x:α}(h:l[i]? =some x):l.take (i+1)=l.take i++[x]:=by
 rw[Gv,h];rfl
theorem xB (l:List UInt8) (a b:Nat):(ofL l).extract a b=ofL ((l.take b).drop a):=by
 apply ByteArray.ext
 apply Array.toList_inj.1
 rw[Lib.extract_data,gj,gj]
 exact(List.drop_take ..).symm
theorem Cj {l:List UInt8}{a b:Nat}(c:a<=b) (d:b<=l.length):subB (ofL l) (a:Int) (b:Int)=some (ofL ((l.take b).drop a)):=by
 unfold subB
 rw[eN,if_pos ⟨by omega,by omega,by omega⟩,Gb,Gb,xB]
theorem Br {l:List UInt8}{i:Nat}{x:UInt8}(h:l[i]? =some x):idxB (ofL l) (i:Int)=some (x.toNat:Int):=by
 have a:=(C7.1 h).1
 unfold idxB
 rw[eN,if_pos ⟨by omega,by omega⟩,Gb,gj,bR,h];rfl
theorem EX (x c:UInt8):((x.toNat:Int)==(c.toNat:Int))=decide (x=c):=by
 by_cases h:x=c
 .subst h;simp
 .have:x.toNat≠c.toNat:=λa=>h (UInt8.toNat_inj.1 a)
  rw[decide_eq_false h,beq_eq_false_iff_ne];omega
def txt (L:List (List UInt8)):List UInt8:=(L.map (· ++ [10])).flatten
theorem uE (l:List UInt8) (L:List (List UInt8)):txt (l::L)=l++10::txt L:=by simp[txt]
theorem xf (L M:List (List UInt8)):txt (L++M)=txt L++txt M:=by simp[txt]
theorem Cg:∀{L:List (List UInt8)},(∀l∈L,10∉l)->sp 10 (txt L)=L++[[]]
 | [],_=>rfl
 |l::L,h=>by
  rw[uE,re _ (h l (Gi ..)),Cg λx a=>h x (FG _ a)];rfl
theorem yB:∀{L:List (List UInt8)},L≠[]->(∀l∈L,10∉l)->∃a,txt L=a++[10]/\sp 10 a=L
 | [l],_,h=>⟨l,by simp[txt],xb (h l (Gi ..))⟩
 |l::m::L,_,h=>by
  obtain⟨a,b,c⟩:=yB (L:=m::L) (by simp) λx d=>h x (FG _ d)
  exact⟨l++10::a,by rw[uE,b];simp,by rw[re _ (h l (Gi ..)),c]⟩
theorem A6 (t:List UInt8) (c:UInt8):Lib.trimSuffix (t++[c]) [c]=t:=by
 unfold Lib.trimSuffix Lib.hasSuffix
 rw[if_pos (by rw[List.isSuffixOf_iff_suffix];exact List.suffix_append ..)]
 simp
theorem yA {l p:List UInt8}(h:l.length<=9223372036854775807):tsufB (ofL l) (ofL p)=some (ofL (Lib.trimSuffix l p)):=by
 unfold tsufB
 rw[eN,if_pos h];rfl
theorem y8 {l:List UInt8}(h:l.length<=1000000000):tb (ofL l)=some ((sp 10 l).dropLast.map ofL):=by
 have t:rng ((ofL l).size:Int)=some ():=by
  rw[eN];unfold rng;rw[if_pos (by omega)]
 have s:Int.toNat (((ofL l).size:Int)-0)=l.length:=by rw[eN];omega
 obtain⟨e,o,d,a,u,p,i⟩:=cg (f:=lc (ofL l)) (λj (e:List ByteArray×Int)=>∃(d:List (List UInt8)) (a:Nat),a<=j/\e=(d.map ofL,(a:Int))/\sp 10 (l.take j)=d++[(l.take j).drop a]) l.length (s:=([],0)) ⟨[],0,Fg _,rfl,by simp[sp]⟩ (λj e hj ⟨d,a,r,hs,m⟩=>by
  subst hs
  have k:=(Cf 10 (l.take j)).1
  rw[m,FE]at k
  simp only[C9,List.length_singleton]at k
  obtain⟨x,g⟩:∃x,l[j]? =some x:=⟨_,ct hj⟩
  have b:=tl 10 x (l.take j) d _ m
  rw[← r9 g]at b
  have q:(l.take (j+1)).drop a=(l.take j).drop a++[x]:=by
   rw[r9 g,List.drop_append_of_le_length (by rw[FE];omega)]
  unfold lc
  rw[Br g,GA,show(10:Int)=((10:UInt8).toNat:Int) from rfl,EX]
  by_cases c:x=10
  .rw[if_pos c]at b
   rw[decide_eq_true c,cond_true,Cj r (by omega),GA,app1 (by rw[Gg];omega) rfl,GA,GA]
   refine⟨_,rfl,d++[(l.take j).drop a],j+1,Fg _,?_,?_⟩
   .rw[wr' (z:=(j:Int)+1) (by omega) (by omega),FF]
    rfl
   .have n:(l.take (j+1)).drop (j+1)=[]:=List.drop_eq_nil_of_le (by rw[FE];omega)
    rw[b,n]
  .rw[if_neg c]at b
   rw[decide_eq_false c,cond_false,GA]
   exact⟨_,rfl,d,a,by omega,rfl,by rw[b,q]⟩)
 unfold tb
 rw[t,GA,s]
 show FR (cntM (lc (ofL l)) l.length 0 ([],0)) _=_
 rw[o,GA,bV,p]
 rw[Gx]at i
 rw[i,List.dropLast_concat]
theorem vF (c:UInt8) (a:List UInt8):∀(k:Nat) (s:List UInt8),Lib.replaceK [c] a k s=Lib.join (Lib.splitK [c] 0 k s) a
 |0,s=>by rw[Lib.splitK,Lib.join_one];rfl
 |k+1,s=>by
  unfold Lib.replaceK Lib.splitK
  split
  .rw[Lib.join_one]
  .rw[vF c a k]
   generalize hr:Lib.splitK [c] 0 k _=b
   cases b with
   |nil=>
    exfalso
    cases k <;> simp[Lib.splitK]at hr
    split at hr <;> simp at hr
   |cons d b=>
    rw[Lib.join_cons,Lib.join_cons]
    simp[Lib.joinTail,List.append_assoc]
theorem xW {xs:List (List UInt8)}{sep:List UInt8}{b:UInt8}(h:b∈Lib.join xs sep):b∈sep\/∃x∈xs,b∈x:=by
 cases xs with
 |nil=>rw[Lib.join_nil]at h;cases h
 |cons x e=>
  rw[Lib.join_cons,E4]at h
  rcases h with h|h
  .exact .inr ⟨x,Gi ..,h⟩
  .unfold Lib.joinTail at h
   obtain⟨f,c,hb⟩:=List.mem_flatten.1 h
   obtain⟨d,a,rfl⟩:=FH.1 c
   rcases E4.1 hb with hb|hb
   .exact .inl hb
   .exact .inr ⟨d,FG _ a,hb⟩
theorem BA {xs:List (List UInt8)}{sep x:List UInt8}{b:UInt8}(a:x∈xs) (h:b∈x):b∈Lib.join xs sep:=by
 cases xs with
 |nil=>cases a
 |cons d c=>
  rw[Lib.join_cons,E4]
  rcases E5.1 a with rfl|a
  .exact .inl h
  .exact .inr (List.mem_flatten.2 ⟨sep++x,FH.2 ⟨x,a,rfl⟩,E4.2 (.inr h)⟩)
theorem BU {l:List UInt8}{c:UInt8}{a:List UInt8}(h:l.length<=1000000000) (f:a.length<=10) (d:a≠[c]):replB (ofL l) (ofL [c]) (ofL a)=some (ofL (Lib.join (sp c l) a)):=by
 have e:Lib.countB (ofL l) (ofL [c])=l.count c:=Lib.count_one c l
 have g:l.count c<=l.length:=List.count_le_length
 have hm:l.count c * a.length<=1000000000 * 10:=Nat.mul_le_mul (by omega) f
 unfold replB
 rw[if_pos ⟨by rw[eN];omega,by rw[eN];simp,by rw[eN,eN,e];omega⟩,gj,gj,gj]
 unfold Lib.replaceAll Lib.replace Lib.replaceNum
 rw[if_neg (by simpa using λb=>d b.symm),if_pos (.inl (by omega)),Lib.count_one,vF,pF c l _ (Fg _)]
 rfl
theorem yi (c:UInt8) (a:List UInt8):∀l:List UInt8,(Lib.join (sp c l) a).length<=l.length+l.length * a.length
 | []=>by simp[sp,Lib.join_one]
 |b::l=>by
  have i:=yi c a l
  have e:(b::l).length * a.length=l.length * a.length+a.length:=by rw[E1,Nat.succ_mul]
  obtain⟨w,f,d⟩:=Hg (uD c l)
  rw[d,Lib.join_cons,C9]at i
  by_cases hb:b=c
  .subst hb
   rw[mh,d,Lib.join_cons]
   have g:Lib.joinTail a (w::f)=a++w++Lib.joinTail a f:=by simp[Lib.joinTail]
   rw[g,e]
   simp only[C9,E1,Gh]
   omega
  .rw[eu hb d,Lib.join_cons,e]
   simp only[C9,E1]
   omega
structure RivT (r:Rival):Prop where
 len:r.Next.length=r.In.length
 le:r.In.length<=256
 inn:∀x∈r.In,0<=x/\x<256
 nxt:∀row∈r.Next,row.length<=4/\∀x∈row,0<=x/\x<256
theorem Bl {p:Sig}(hs:sigOk p=true){e:VC}(hb:∀c∈e,Clause.bd c) (C:∀c∈e,cK p c=true) (z:e.length<=2):
 (d7 p e=some true/\fO p e=some 0/\dF p e=some (⟨[],[]⟩,false)/\∃M,eo p e=some (M,true)/\MadeBy p e M) \/
 (d7 p e=some false/\fO p e=some 1/\eo p e=some (⟨[],[]⟩,false)/\∃y,dF p e=some (y,true)/\RivT y):=by
 obtain⟨d,A,n,m,k,P,g,W,pk,v,q,o,a,t,hp⟩:=small hs hb C z
 have r:=zz o a v
 have s:=yZ o a q
 cases f:wB W 0 with
 |false=>
  rw[f]at r s
  left
  obtain⟨j,w,E,I⟩:=DX (wn:=wonL g.Prio.length W) hs o.det o.pb a.cx a.im a.ok f
  have hM:=gT a.cx f j w
  have B:=qK a.cx t hp hM.nm λx l=>(hM.all x l).2
  refine⟨r,?_,?_,⟨(itM d n m k P g pk j).2.1,(itM d n m k P g pk j).2.2⟩,?_,⟨v,a.q o,t,hp,f,w,E⟩⟩
  .unfold fO
   rw[s];rfl
  .unfold dF
   simp only[q,a.iC,a.iR,a.iW,a.won,GA,F7,cond_false]
   rw[f];rfl
  .unfold eo
   simp only[q,a.iC,a.iR,a.iW,a.won,a.iS,GA,F7,cond_false]
   rw[f]
   show(bif (b2i false !=0) then _ else _)=_
   rw[show(b2i false !=0)=false from rfl,cond_false,I,GA,bV]
   unfold stM
   dsimp only
   rw[decide_eq_false (by omega)];rfl
 |true=>
  rw[f]at r s
  right
  obtain⟨H,K,i⟩:=tw (wn:=wonL g.Prio.length W) a.sig a.cx a.im a.ok f
  obtain⟨F,S,In,Nx⟩:=H
  dsimp only at i
  have B:=qK a.cx t hp i.nm λx l=>(i.all x l).2
  have N:=i.inl
  have O:=i.nxl
  have R:=a.cx.m4
  have Q:=a.cx.k4
  have u:dF p e=some (⟨In,Nx⟩,true):=by
   unfold dF
   simp only[q,a.iC,a.iR,a.iW,a.won,GA,F7,cond_false,f]
   show(FR (lK p d g P) _)=_
   unfold lK
   rw[a.iS,GA,K];rfl
  refine⟨r,?_,?_,⟨In,Nx⟩,u,by dsimp only;omega,by dsimp only;omega,λx l=>by have:=i.inr x l;omega,λG D=>?_⟩
  .unfold fO
   rw[s,GA]
   show(bif false then _ else _)=_
   rw[cond_false,u];rfl
  .unfold eo
   simp only[q,a.iC,a.iR,a.iW,a.won,GA,F7,cond_false]
   rw[f];rfl
  .obtain⟨L,b⟩:=i.nxr G D
   exact⟨by omega,λx l=>by have:=b x l;omega⟩
def rK (m:Machine) (d:Det) (ins:Int) (I:Nat->Int):Nat->Key
 |0=>(0,0)
 |t+1=>kyW m d ins (rK m d ins I t) (I t)
section
variable {p:Sig}{m:Machine}{D:Det}{k:Nat}{K:List Key}{w:watch}(h:WK p m D k K w)
include h
theorem zO {v j x:Int}(g:0<=v) (n:v<K.length) (b:Eg w.next v j x):0<=j/\j<k/\0<=x/\x<K.length/\keyAt K x=kyW m D (pw p.In) (keyAt K v) j:=by
 obtain⟨l,a,i⟩:=id b
 obtain⟨c,o⟩:=cO i
 rw[cN g]at a
 obtain⟨q,_⟩:=h.prod.row _ l a
 obtain⟨d,e,f⟩:=Ck h.prod g n c (by omega)
 rw[b.tab]at d e f
 exact⟨c,by omega,d,e,f⟩
theorem xi {M:VB}:∀{R:VI}{v u:Int},0<=v->v<K.length->Way w.next M v R u->∀x∈R,0<=x/\x<k
 | [],_,_,_,_,_,x,a=>by cases a
 |j::R,v,u,v0,v1,⟨y,h1,_,h3⟩,x,a=>by
  obtain⟨b,c,d,e,_⟩:=zO h v0 v1 h1
  rcases E5.1 a with rfl|a
  .exact⟨b,c⟩
  .exact xi d e h3 x a
theorem xh {M:VB}{I:Nat->Int}:∀{n t:Nat}{v u:Int},0<=v->v<K.length->keyAt K v=rK m D (pw p.In) I t->Way w.next M v (seg I t n) u->keyAt K u=rK m D (pw p.In) I (t+n)/\∀i,i<n->∃a:Int,0<=a/\a<K.length/\In M a/\keyAt K a=rK m D (pw p.In) I (t+i+1)
 |0,t,v,u,_,_,e,hw=>⟨by rw[show u=v from hw];exact e,λi d=>absurd d (Gy i)⟩
 |n+1,t,v,u,v0,v1,e,⟨x,h1,h2,h3⟩=>by
  obtain⟨_,_,f,g,c⟩:=zO h v0 v1 h1
  rw[e]at c
  obtain⟨j,b⟩:=xh (n:=n) (t:=t+1) f g c h3
  refine⟨by rw[j,show t+1+n=t+(n+1) by omega],λi d=>?_⟩
  cases i with
  |zero=>exact⟨x,f,g,h2,c⟩
  |succ i=>
   obtain⟨a,k,l,o,q⟩:=b i (by omega)
   exact⟨a,k,l,o,by rw[q,show t+1+i+1=t+(i+1)+1 by omega]⟩
theorem Ee (g:Gn w.next K.length){c:Pair}(O:St K.length (partP K c).Ask) (W:hitP w.next (partP K c)≠[]):∃I:Nat->Int,(∀a,0<=I a/\I a<k)/\¬Well c.Ask c.Give λa=>(rK m D (pw p.In) I a).2:=by
 have F:∀(r:VI) (b:Int),0<=b->b<K.length->(b∈partN K r K.length↔(keyAt K b).2∈r):=λr b v l=>by rw[rO _ _ _ (Fg _),Ej v l]
 obtain⟨d,a,Z⟩:=Hg W
 obtain⟨G,X⟩:=(xG g d).1 (by rw[Z];exact Gi ..)
 obtain⟨f,o⟩:=O.rng d G
 obtain⟨ac,Y⟩:=dD f
 obtain⟨R,s⟩:=Cq h (M:=mayM K.length []) (λad ae af=>(z7 ad).2 ⟨⟨ae,af⟩,by simp⟩) ac (by omega)
 rw[← Y]at s
 obtain⟨b,l,y⟩:=X
 obtain⟨L,T⟩:=y.lv
 obtain⟨Q,ag,u⟩:=Lv.way (show Lv (scN w.next (mayM K.length (partP K c).Give)) d (L+1) d from⟨b,l,T⟩)
 have e:0<(⟨R,Q⟩:Word).Loop.length:=by show 0<Q.length;omega
 have h0:(0:Int)<K.length:=by
  have:=(C7.1 h.prod.zero).1
  omega
 have U:keyAt K 0=(0,0):=by
  unfold keyAt
  rw[show(0:Int).toNat=0 from rfl,h.prod.zero];rfl
 have P:∀a,0<=ltW ⟨R,Q⟩ a/\ltW ⟨R,Q⟩ a<k:=λa=>by
  rcases E4.1 (CX e a) with t|t
  .exact xi h (Ga 0) h0 s _ t
  .exact xi h f o u _ t
 have S:R=seg (ltW ⟨R,Q⟩) 0 R.length:=Ao λi x E=>by
  rw[Nat.zero_add]
  exact Eb e (by rw[Fw (C7.1 E).1];exact E)
 have B:∀j,Q=seg (ltW ⟨R,Q⟩) (R.length+j * Q.length) Q.length:=BG e
 have z:=(xh h (n:=R.length) (t:=0) (I:=ltW ⟨R,Q⟩) (Ga 0) h0 U (by rw[← S];exact s)).1
 rw[Nat.zero_add]at z
 have C:∀j,keyAt K d=rK m D (pw p.In) (ltW ⟨R,Q⟩) (R.length+j * Q.length)/\∀i,i<Q.length->∃b:Int,0<=b/\b<K.length/\In (mayM K.length (partP K c).Give) b/\keyAt K b=rK m D (pw p.In) (ltW ⟨R,Q⟩) (R.length+j * Q.length+i+1):=λj=>by
  have A:keyAt K d=rK m D (pw p.In) (ltW ⟨R,Q⟩) (R.length+j * Q.length):=by
   induction j with
   |zero=>rw[Nat.zero_mul];exact z
   |succ j ab=>rw[Nat.succ_mul,← Nat.add_assoc];exact(xh h f o ab (by rw[← B j];exact u)).1
  exact⟨A,(xh h f o A (by rw[← B j];exact u)).2⟩
 refine⟨ltW ⟨R,Q⟩,P,λaa=>?_⟩
 obtain⟨a,ah,q⟩:=aa (λN=>⟨R.length+N * Q.length,by have:=Hi N e;dsimp only at this;omega,by show(rK m D (pw p.In) (ltW ⟨R,Q⟩) (R.length+N * Q.length)).2∈_;rw[← (C N).1];exact(F _ d f o).1 G⟩) (R.length+1)
 have hd:=Nat.mod_add_div (a-R.length-1) Q.length
 have V:=Nat.mod_lt (a-R.length-1) e
 obtain⟨b,v,l,y,H⟩:=(C ((a-R.length-1) / Q.length)).2 ((a-R.length-1) % Q.length) V
 rw[Nat.mul_comm]at hd
 rw[show R.length+(a-R.length-1) / Q.length * Q.length+(a-R.length-1) % Q.length+1=a by omega]at H
 have q:(rK m D (pw p.In) (ltW ⟨R,Q⟩) a).2∈c.Give:=q
 rw[← H]at q
 exact((z7 b).1 y).2 ((F _ b v l).2 q)
end
theorem MadeBy.well {p:Sig}{r:VC}{M:Machine}(h:MadeBy p r M):machOk p M=true/\∀{D:Det},cU p r=some (D,true)->∀{I:Nat->Int},(∀a,0<=I a/\I a<pw p.In)->∀o∈D.Pairs,Well o.Ask o.Give λa=>(rK M D (pw p.In) I a).2:=by
 obtain⟨z,c,E,hp,h0,hj,hjl⟩:=h
 rename_i d n m k A P g W pk j
 have hM:=gT c.cx h0 j hj
 have R:=qK c.cx E hp hM.nm λx e=>(hM.all x e).2
 have O:=hM.nxl
 have Q:=hM.oul
 have S:=(C7.1 hM.zero).1
 refine⟨AP (by dsimp only;omega) (by dsimp only;omega) (by dsimp only;omega) (λq l=>?_) (λq l=>?_),λs I B o F=>?_⟩
 .obtain⟨f,b⟩:=hM.nxr q l
  exact⟨by rw[f,c.im],λx e=>by have:=b x e;dsimp only;omega⟩
 .obtain⟨f,b⟩:=hM.our q l
  rw[c.ok]
  exact⟨by rw[f,c.im],b⟩
 .rw[z]at s
  cases s
  have t:∀a,0<=I a/\I a<m:=λa=>by have:=B a;rw[c.im]at this;exact this
  have u:∀a,(I a).toNat<m:=λa=>by have:=t a;omega
  have e:=EG (p:=p) c.cx h0 c.im hj hjl t
  have G:=Cs c.cx h0 u
  have w:=Az c.det
  rw[c.cx.dl]at w
  obtain⟨i,C⟩:=Gf F
  have H:=Ct c.cx h0 u w C
  have N:∀a,rK ⟨(itM d n m k P g pk j).2.1,(itM d n m k P g pk j).2.2⟩ d (pw p.In) I a=(runM ⟨(itM d n m k P g pk j).2.1,(itM d n m k P g pk j).2.2⟩ I a,atP P (xsM n m P g pk (λa=>(I a).toNat) a)):=λa=>by
   induction a with
   |zero=>
    have K:=c.cx.rg.game.zero
    exact Prod.ext rfl (dR (v:=⟨0,firstR d.Pairs.length⟩) (by show idx P ((0:Nat):Int)=_;rw[bT];exact K)).symm
   |succ a L=>
    have y:rK ⟨(itM d n m k P g pk j).2.1,(itM d n m k P g pk j).2.2⟩ d (pw p.In) I (a+1)=kyW ⟨(itM d n m k P g pk j).2.1,(itM d n m k P g pk j).2.2⟩ d (pw p.In) (rK ⟨(itM d n m k P g pk j).2.1,(itM d n m k P g pk j).2.2⟩ d (pw p.In) I a) (I a):=rfl
    rw[y,L]
    refine Prod.ext rfl ?_
    show tab d.Next (atP P (xsM n m P g pk (λa=>(I a).toNat) a)) (letM p ⟨(itM d n m k P g pk j).2.1,(itM d n m k P g pk j).2.2⟩ I a)=_
    rw[(e a).2.2]
    exact(G a).1.symm
  rw[show(λa=>(rK ⟨(itM d n m k P g pk j).2.1,(itM d n m k P g pk j).2.2⟩ d (pw p.In) I a).2)=λa=>atP P (xsM n m P g pk (λa=>(I a).toNat) a) from funext λa=>by rw[N a]]
  exact H
theorem CI {p:Sig}(hs:sigOk p=true){b:VC}(hb:∀c∈b,Clause.bd c) (s:∀c∈b,cK p c=true) (m:b.length<=2){M:Machine}(f:MadeBy p b M):jt p M b=some true:=by
 obtain⟨hM,r⟩:=f.well
 have t:dI p b=true:=by
  unfold dI
  rw[decide_eq_true (by omega),Gc.2 s];rfl
 obtain⟨n,k,D,K,w,a,e,x⟩:=Cv hs hb t m hM λD k e hk=>f.few e hk
 have l:brkN w.next w.pairs w.pairs.length=[]:=by
  cases hL:brkN w.next w.pairs w.pairs.length with
  |nil=>rfl
  |cons A L=>
   obtain⟨i,_,_,y,d,o⟩:=(xr _ _ _ A).1 (by rw[hL];exact Gi ..)
   have q:=a.ps.2.2 y (FI d)
   rw[a.wk.pairs,FA]at d
   obtain⟨j,g,rfl⟩:=Option.map_eq_some_iff.1 d
   obtain⟨I,u,v⟩:=Ee a.wk a.gn q o
   exact absurd (r e (λz=>by rw[a.kn];exact u z) j (FI g)) v
 unfold jt
 rw[x]
 simp only[GA,cond_true,Hc,Option.isSome_some,guardS,if_true]
 rw[AC a.gn a.ps.2.2 a.ps.2.1 rfl rfl,l];rfl
theorem CJ {p:Sig}(hs:sigOk p=true){m:Machine}(hm:machOk p m=true):∃d,mG p m=some d:=by
 have hk:=Mok.of hm
 obtain⟨n,o,q,r,s⟩:=gi hm
 have g:(FK m.Next.length (0:Int)).length=m.Next.length:=by simp
 have a:=mN m (FK m.Next.length 0)
 have b:(dO m (FK m.Next.length 0)).length=m.Next.length:=by rw[fE,g]
 have f:left (dO m (FK m.Next.length 0))<2500:=by
  have:=xd (zZ a (by rw[b];omega))
  unfold left;omega
 obtain⟨e,c⟩:=yj (m:=m) 2500 _ a
 have j:=uh (m:=m) 2500 _ a (by rw[b];omega) f
 rw[b]at c
 obtain⟨N,d,k,l⟩:=CU hk e c (DU c j)
 have h0:idx (rest m 2500 (dO m (FK m.Next.length 0))) 0=some 0:=by
  rw[oU (by omega) (by omega)]
  have:=e 0 (by omega)
  simp only[Int.natCast_zero]at this
  rw[show atL (rest m 2500 (dO m (FK m.Next.length 0))) 0=0 from by omega]
 have i:jK m=some (rest m 2500 (dO m (FK m.Next.length 0))):=by
  unfold jK
  rw[dq (by omega) rfl,GA,g,CH hk,GA,bV,Bq hk 2500 (2 ^ 64) _ b a (sq _ _) f (by omega),GA,zJ]
 refine⟨d,?_⟩
 unfold mG
 rw[jv,kW hs,hs,hm,i]
 simp only[GA,F7,cond_false,h0]
 exact k
theorem E0 {z:Int}(h0:0<=z) (a:z<18446744073709551616):FW .u64 z=z:=by
 simp[FW,F3,IntKind.signed]
 omega
theorem tp {d:dice}(hb:∀x∈d.b,U8 x) (hl:d.b.length<=4096) (j:0<=d.i) (l:d.i<=4096){k:Int}(hk:1<=k):∃x i h,gR d k=some (x,i,h)/\0<=x/\x<k/\0<=i/\i<=4096:=by
 unfold gR
 have b:nz k=some ():=by unfold nz;rw[if_neg (by omega)]
 generalize hA:(BitVec.ofInt (F3 F5) (Int.fdiv (FW .u64 (FW .u64 (d.h * 6364136223846793005)+1442695040888963407)) (2 ^ (min (Int.toNat 33) (F3 F5)))))=A
 have g:(BitVec.toNat (A &&& BitVec.ofInt (F3 F5) 16777215))<=16777215:=by
  rw[BitVec.toNat_and]
  refine GQ Nat.and_le_right ?_
  decide
 generalize(BitVec.toNat (A &&& BitVec.ofInt (F3 F5) 16777215))=c at g
 rw[E0 (by omega) (by omega),wr' (z:=(c:Int)) (by omega) (by omega)]
 by_cases a:d.i<(d.b.length:Int)
 .obtain⟨x,e,hm⟩:=g8 (xs:=d.b) j a
  have f:=hb x hm
  unfold U8 at f
  simp only[a,decide_true,cond_true,e,GA,b]
  rw[wr' (z:=x) (by omega) (by omega),wr' (z:=(c:Int)+x) (by omega) (by omega),wr' (by omega) (by omega),He (by omega)]
  exact⟨_,_,_,rfl,Int.emod_nonneg _ (by omega),Int.emod_lt_of_pos _ (by omega),by omega,by omega⟩
 .simp only[a,decide_false,cond_false,GA,b]
  rw[He (by omega)]
  exact⟨_,_,_,rfl,Int.emod_nonneg _ (by omega),Int.emod_lt_of_pos _ (by omega),by omega,by omega⟩
theorem Dq (b:VI) (k:Int):∃h,wo b k=some ⟨b,0,h⟩:=by
 unfold wo
 obtain⟨a,c,_⟩:=cg (f:=ph b) (λ_ _=>True) b.length (s:=(FW .u64 ((FW .u64 (k * 7919))+(FW .u64 (b.length:Int))))) trivial (λj a hj _=>by
  have d:b[j]? =some b[j]:=by simp[hj]
  unfold ph
  rw[bT,d]
  exact⟨_,rfl,trivial⟩)
 rw[c]
 exact⟨a,rfl⟩
theorem St.up {q:Nat}{A:VI}(h:St q A):St (q+1) A:=⟨h.asc,λx a=>by have:=h.rng x a;omega⟩
theorem St.push {q:Nat}{A:VI}(h:St q A):St (q+1) (A++[(q:Int)]):=⟨List.pairwise_append.2 ⟨h.asc,by simp,λc ha b hb=>by
 rw[E7]at hb
 have:=h.rng c ha
 omega⟩,λx a=>by
 rcases E4.1 a with a|a
 .have:=h.rng x a;omega
 .rw[E7.1 a];omega⟩
section
variable {b:VI}(hb:∀x∈b,U8 x) (hl:b.length<=4096)
include hb hl
theorem set5 {i h:Int}(x:0<=i) (y:i<=4096):∃A e r,qH ⟨b,i,h⟩ 4=some (A,e,r)/\St 4 A/\0<=e/\e<=4096:=by
 unfold qH
 obtain⟨z,s,t,u,l⟩:=cg (f:=nk ⟨b,i,h⟩) (λq (a:VI×Int×Int)=>St q a.1/\0<=a.2.1/\a.2.1<=4096) 4 (s:=([],i,h)) ⟨⟨by simp,by simp⟩,x,y⟩ (λq a G ⟨c,m,n⟩=>by
  obtain⟨A,C,B⟩:=a
  have v:=c.len
  obtain⟨D,H,l,p,E,F,g,j⟩:=tp (d:=⟨b,C,B⟩) hb hl m n (k:=2) (by omega)
  unfold nk
  dsimp only at v ⊢
  rw[p,GA]
  cases D==0 with
  |true=>
   rw[cond_true,app1 (by omega) rfl,GA]
   exact⟨_,rfl,c.push,g,j⟩
  |false=>exact⟨_,rfl,c.up,g,j⟩)
 have o:Int.toNat (4-0)=4:=rfl
 have w:rng (4:Int)=some ():=rfl
 rw[w,GA,o,s]
 exact⟨_,_,_,rfl,t,u,l⟩
theorem CA {i h:Int}(D:0<=i) (E:i<=4096):∃c n v,nj ⟨b,i,h⟩=some (c,n,v)/\(c.A.length<=4/\c.B.length<=4/\cK ⟨1,1⟩ c=true)/\0<=n/\n<=4096:=by
 obtain⟨a,M,w,q,I,K,r,s⟩:=tp (d:=⟨b,i,h⟩) hb hl D E (k:=7) (by omega)
 obtain⟨A,N,x,t,g,o,p⟩:=set5 hb hl (h:=w) r s
 obtain⟨B,O,L,u,f,l,m⟩:=set5 hb hl (h:=x) o p
 have C:FW .i64 (1+a)=1+a:=wr' (by omega) (by omega)
 have z:ltr (⟨1,1⟩:Sig)=4:=by decide
 have j:∀B':VI,St 4 B'->(B'=[]\/1+a=2\/1+a=3\/1+a=7)->cK ⟨1,1⟩ ⟨1+a,A,B'⟩=true:=λB' y h=>by
  unfold cK
  dsimp only
  rw[z,decide_eq_true (by omega),decide_eq_true (by omega),g.ok (by omega),y.ok (by omega)]
  rcases h with e|e|e|e
  .rw[e];simp
  .rw[e];rfl
  .rw[e];rfl
  .rw[e];rfl
 unfold nj
 rw[q,GA,t,GA,C]
 dsimp only
 rw[u]
 cases F:(1+a==2) with
 |true=>exact⟨_,_,_,rfl,⟨g.len,f.len,j B f (.inr (.inl (by simpa using F)))⟩,l,m⟩
 |false=>
  cases G:(1+a==3) with
  |true=>exact⟨_,_,_,rfl,⟨g.len,f.len,j B f (.inr (.inr (.inl (by simpa using G))))⟩,l,m⟩
  |false=>
   cases H:(1+a==7) with
   |true=>exact⟨_,_,_,rfl,⟨g.len,f.len,j B f (.inr (.inr (.inr (by simpa using H))))⟩,l,m⟩
   |false=>exact⟨_,_,_,rfl,⟨g.len,Gz _,j [] ⟨by simp,by simp⟩ (.inl rfl)⟩,o,p⟩
theorem Bh {i h:Int}(D:0<=i) (E:i<=4096):∃g l p,lT ⟨b,i,h⟩ 2=some (g,l,p)/\(∀c∈g,c.A.length<=4/\c.B.length<=4/\cK ⟨1,1⟩ c=true)/\g.length<=2/\0<=l/\l<=4096:=by
 obtain⟨x,F,C,t,K,L,u,v⟩:=tp (d:=⟨b,i,h⟩) hb hl D E (k:=3) (by omega)
 obtain⟨G,I,q⟩:=cZ (f:=jb ⟨b,i,h⟩) (λj (a:VC×Int×Int×Int)=>a.2.1=x-(j:Int)/\(j:Int)<=x/\0<=a.2.2.1/\a.2.2.1<=4096/\a.1.length=j/\∀c∈a.1,c.A.length<=4/\c.B.length<=4/\cK ⟨1,1⟩ c=true) (λ_=>False)
  (λa=>(∀c∈a.1,c.A.length<=4/\c.B.length<=4/\cK ⟨1,1⟩ c=true)/\a.1.length<=2/\0<=a.2.2.1/\a.2.2.1<=4096) 3 (λj a ⟨w,M,m,n,r,o⟩=>by
  obtain⟨g,k,l,p⟩:=a
  dsimp only at w m n r o
  unfold jb
  dsimp only
  by_cases s:0<k
  .obtain⟨c,O,N,y,z,A,B⟩:=CA hb hl (h:=p) m n
   rw[decide_eq_true s,cond_true,y,GA,app1 (by omega) rfl,GA,wr' (by omega) (by omega)]
   refine⟨_,rfl,by omega,by dsimp only;omega,by omega,A,B,by dsimp only;rw[C9,r];rfl,λH e=>?_⟩
   rcases E4.1 e with e|e
   .exact o H e
   .rw[E7.1 e];exact z
  .rw[decide_eq_false s,cond_false]
   exact⟨_,rfl,o,by dsimp only;omega,m,n⟩) (2 ^ 64) 0 ([],x,F,C) (by omega) ⟨by dsimp only;omega,by omega,u,v,rfl,by simp⟩ (by omega)
 unfold lT
 rw[wr' (by omega) (by omega),show(2:Int)+1=3 from rfl,t,GA]
 dsimp only
 match G,q with
 |.inr a,q=>
  rw[I,GA,bV]
  exact⟨_,_,_,rfl,q⟩
end
theorem m6 {m:Nat}(hm:m<=1000000000000):fB (m:Int)=some (ofL (Lib.decDigits m)):=by
 unfold fB jo fmtB
 rw[if_pos ⟨rfl,by omega,by omega⟩,Bw];rfl
def vk (a b:Int):List UInt8:=Lib.decDigits a.toNat++[47]++Lib.decDigits b.toNat
def wordsM (row a:VI):List (List UInt8):=(row.zip a).map λp=>vk p.1 p.2
theorem Ax {a b:Int}(c:0<=a) (d:a<100) (e:0<=b) (f:b<100):(vk a b).length<=300:=by
 unfold vk
 have:=oZ a.toNat
 have:=oZ b.toNat
 simp only[C9,E1,Gh]
 omega
section
variable {p:Sig}{m:Machine}(hm:machOk p m=true)
include hm
theorem machRow {q:Nat}{row:VI}(f:m.Next[q]? =some row):∃a,m.Out[q]? =some a/\a.length=row.length/\row.length<=4/\(∀x∈row,0<=x/\x<48)/\∀x∈a,0<=x/\x<4:=by
 obtain⟨o,r,s,g,i⟩:=gi hm
 have n:=(C7.1 f).1
 obtain⟨a,e⟩:∃j,m.Out[q]? =some j:=⟨_,ct (by omega)⟩
 obtain⟨k,c⟩:=g row (FI f)
 obtain⟨l,d⟩:=i a (FI e)
 have t:=iD p.In
 have u:=iD p.Out
 exact⟨a,e,by omega,by omega,λx b=>⟨(c x b).1,by have:=(c x b).2;omega⟩,λx b=>⟨(d x b).1,by have:=(d x b).2;omega⟩⟩
omit hm in
theorem yH {row c:VI}(hl:c.length=row.length){j:Nat}{a b:Int}(ha:row[j]? =some a) (hb:c[j]? =some b):wordsM (row.take (j+1)) (c.take (j+1))=wordsM (row.take j) (c.take j)++[vk a b]:=by
 have hj:=(C7.1 ha).1
 unfold wordsM
 rw[Gv,Gv,ha,hb]
 simp only[Option.toList_some]
 rw[List.zip_append (by rw[FE,FE,hl]),FF]
 rfl
omit hm in
theorem uG {row a:VI}(hl:a.length=row.length):(wordsM row a).length=row.length:=by
 unfold wordsM
 rw[Gg,List.length_zip,hl,Nat.min_self]
omit hm in
theorem xt {a b:Int}(g:0<=a) (l:a<100) (i:0<=b) (n:b<100) (f:Int->Option ByteArray) (e:∀m:Nat,m<=1000000000000->f (m:Int)=some (ofL (Lib.decDigits m))):
 FR (f a) (λx=>FR (catB x (ByteArray.mk #[47])) λj=>FR (f b) λk=>catB j k)=some (ofL (vk a b)):=by
 obtain⟨c,rfl⟩:=dD g
 obtain⟨d,rfl⟩:=dD i
 have:=oZ c
 have:=oZ d
 rw[e c (by omega),GA,show ByteArray.mk #[47]=ofL [47] from rfl,fo (by simp only[E1,Gh];omega),GA,e d (by omega),GA,fo (by simp only[C9,E1,Gh];omega)]
 rfl
omit hm in
theorem CN {q:Nat}{row c:VI}(w:m.Next[q]? =some row) (r:m.Out[q]? =some c) (hl:c.length=row.length) (v:row.length<=4) (t:∀x∈row,0<=x/\x<48) (u:∀x∈c,0<=x/\x<4):
 cntM (eE m q row) row.length 0 []=some (.inr ((wordsM row c).map ofL)):=by
 obtain⟨z,o,p⟩:=cg (f:=eE m q row) (λj e=>e=(wordsM (row.take j) (c.take j)).map ofL) row.length (s:=[]) rfl (λj e hj s=>by
  subst s
  obtain⟨d,ha⟩:∃x,row[j]? =some x:=⟨_,ct hj⟩
  obtain⟨b,hb⟩:∃x,c[j]? =some x:=⟨_,ct (by omega)⟩
  have g:=t d (FI ha)
  have i:=u b (FI hb)
  have a:=xt (a:=d) (b:=b) g.1 (by omega) i.1 (by omega) fB λm h=>m6 h
  have y:(wordsM (row.take j) (c.take j)).length<=4:=by
   rw[uG (by rw[FE,FE,hl]),FE];omega
  refine⟨_,?_,rfl⟩
  unfold eE
  rw[bT,bT,ha,r,GA,GA,bT,hb,GA]
  obtain⟨A,k,a⟩:=Hk.1 a
  obtain⟨B,l,a⟩:=Hk.1 a
  obtain⟨C,n,a⟩:=Hk.1 a
  rw[k,GA,l,GA,n,GA,a,GA,app1 (by rw[Gg];omega) rfl,GA,yH hl ha hb,FF]
  rfl)
 rw[o,p,Gx,← hl,Gx]
end
def bn (a:VC):bench:=⟨⟨1,1⟩,a,⟨⟨[],[]⟩,[]⟩⟩
inductive Runs:VC->List (List UInt8)->List (List UInt8)->Prop
 |nil {cs:VC}:Runs cs [] []
 |cons {cs cs':VC} {l o:List UInt8} {L M:List (List UInt8)} (h:eY (bn cs) (ofL l)=some (ofL o,1,1,cs')) (hl:l≠[]) (ho:o.length<=1000000) (hr:Runs cs' L M):Runs cs (l::L) (o::M)
theorem Runs.loop {N:List (List UInt8)}:∀{a:VC}{L M:List (List UInt8)},Runs a L M->∀(j:Nat) (out:List UInt8),N.drop j=L->out.length+1000001 * L.length<=1000000000->(out++txt M).length<=out.length+1000001 * L.length/\∃c,cntM (iq (N.map ofL)) L.length (j:Int) (ofL out,1,1,a)=some (.inr (ofL (out++txt M),1,1,c))
 |a,_,_,.nil,j,out,_,_=>⟨by simp[txt],a,by simp[txt,cntM]⟩
 |a,_,_,.cons (cs':=c) (l:=l) (o:=b) (L:=L) (M:=M) h hl ho hr,j,out,hd,hb=>by
  have hj:N[j]? =some l:=by
   have:=congrArg (λx=>x[0]?) hd
   simpa [List.getElem?_drop] using this
  simp only[E1]at hb
  obtain⟨f,d,g⟩:=Runs.loop hr (j+1) (out++(b++[10])) (by rw[← List.drop_drop,hd];rfl) (by simp only[C9,E1,Gh];omega)
  have e:out++txt (b::M)=out++(b++[10])++txt M:=by rw[uE];simp
  rw[e]
  refine⟨by simp only[C9,E1,Gh]at f ⊢;omega,d,?_⟩
  have hs:iq (N.map ofL) (j:Int) (ofL out,1,1,a)=some (.inr (.inr (ofL (out++(b++[10])),1,1,c))):=by
   unfold iq
   rw[bT,FA,hj]
   simp only[Option.map_some,GA]
   rw[show ByteArray.mk #[]=ofL [] from rfl,jG,decide_eq_false hl]
   show FR (FR (eY (bn a) (ofL l)) _) _=_
   rw[h]
   simp only[GA]
   rw[show ByteArray.mk #[10]=ofL [10] from rfl,fo (by simp only[E1,Gh];omega),GA,fo (by simp only[C9,E1,Gh];omega)]
   rfl
  show FR (iq (N.map ofL) (j:Int) (ofL out,1,1,a)) _=_
  rw[hs,GA,lU]
  exact g
theorem Bf {L M:List (List UInt8)}(h:Runs [] L M) (g:L≠[]) (hl:∀l∈L,10∉l) (f:(txt L).length<=4000) (k:L.length<=200):sV (ofL (txt L))=some (ofL (txt M))/\(txt M).length<=1000000000:=by
 obtain⟨c,d,i⟩:=yB g hl
 have m:c.length<=4000:=by
  rw[d,C9]at f;omega
 obtain⟨a,j,b⟩:=h.loop (N:=L) 0 [] rfl (by simp only[Gh];omega)
 rw[G0]at a b
 refine⟨?_,by simp only[Gh]at a;omega⟩
 unfold sV strings_TrimSuffix strings_Split
 rw[show ByteArray.mk #[10]=ofL [10] from rfl,show ByteArray.mk #[]=ofL [] from rfl,yA (by omega),GA]
 have e:Lib.trimSuffix (txt L) [10]=c:=by rw[d,A6]
 rw[e,qe (by omega),GA,i,eN,decide_eq_false (by omega),cond_false,GA,Gg,decide_eq_false (by omega),cond_false]
 show FR (cntM (iq (L.map ofL)) L.length ((0:Nat):Int) (ofL [],1,1,[])) _=_
 rw[b];rfl
theorem pv {a:VC}{l o:List UInt8}(hl:l.length<=100) (h:32∉l) (c:cv (bn a) (ofL l)=some (ofL o)):eY (bn a) (ofL l)=some (ofL o,1,1,a):=by
 unfold eY strings_Split strings_TrimPrefix
 rw[show ByteArray.mk #[32]=ofL [32] from rfl,qe (by omega),xb h,GA]
 have h0:idx ([l].map ofL) 0=some (ofL l):=rfl
 have b:(([l].map ofL).length:Int)=1:=rfl
 simp only[h0,GA,b]
 rw[fo (by simp only[E1,Gh];omega),GA]
 unfold tpreB
 rw[GA]
 simp only[show ¬(1:Int)<1 from by omega,decide_false,c,GA]
 cases eqB (ofL l) (ByteArray.mk #[99,108,97,117,115,101]) <;> cases eqB (ofL l) (ByteArray.mk #[118,101,114,116,101,120]) <;> rfl
theorem Cn (p t:List UInt8):Lib.trimPrefix (p++t) p=t:=by
 unfold Lib.trimPrefix Lib.hasPrefix
 rw[if_pos (by rw[List.isPrefixOf_iff_prefix];exact List.prefix_append ..)]
 simp
def kwC:List UInt8:=[99,108,97,117,115,101]
theorem zn {a:VC}{c:Clause}{t:List UInt8}(hb:Clause.bd c) (e:cK ⟨1,1⟩ c=true) (hl:t.length<=1000) (r:a.length<3) (n:gG (ofL t)=some (c,true)):eY (bn a) (ofL (kwC++[32]++t))=some (ofL (Lib.decDigits (a.length+1)),1,1,a++[c]):=by
 have hk:(32:UInt8)∉kwC:=by decide
 have d:kwC++[32]++t=kwC++32::t:=by simp
 have s:(kwC++[32]++t).length<=2000:=by
  rw[C9,C9]
  have:kwC.length=6:=rfl
  simp only[E1,Gh];omega
 have i:iN (bn a) (ofL t)=some (ofL (Lib.decDigits (a.length+1)),a++[c]):=by
  unfold iN
  rw[n,GA]
  have g:=pL (p:=⟨1,1⟩) (by decide) hb
  have k:(bn a).sig=⟨1,1⟩:=rfl
  have f:(bn a).clauses=a:=rfl
  simp only[F7,cond_false,k,f,g,e,GA,show ¬(3:Int)<=(a.length:Int) from by omega,decide_false]
  rw[app1 (by omega) rfl,GA,C9]
  have:=m6 (m:=a.length+1) (by omega)
  rw[show((a.length + [c].length:Nat):Int)=((a.length+1:Nat):Int) from rfl,this]
  rfl
 unfold eY strings_Split strings_TrimPrefix
 rw[show ByteArray.mk #[32]=ofL [32] from rfl,qe (by omega),GA]
 obtain⟨w,b,q⟩:=Hg (uD 32 t)
 have l:sp 32 (kwC++[32]++t)=kwC::w::b:=by rw[d,re t hk,q]
 rw[l]
 have h0:idx ((kwC::w::b).map ofL) 0=some (ofL kwC):=rfl
 have j:eqB (ofL kwC) (ByteArray.mk #[99,108,97,117,115,101])=true:=by decide
 simp only[h0,GA,j,cond_true]
 rw[fo (by decide),GA]
 have o:tpreB (ofL (kwC++[32]++t)) (ofL (kwC++[32]))=some (ofL t):=by
  unfold tpreB
  rw[gj,gj,Cn];rfl
 rw[o,GA,decide_eq_true (by simp only[Gg,E1];omega),cond_true,i]
 rfl
def Gd (l:List UInt8):Prop:=∀b∈l,b≠10/\b≠45
theorem Gd.app {l m:List UInt8}(h:Gd l) (a:Gd m):Gd (l++m):=λb hb=>(E4.1 hb).elim (h b) (a b)
theorem vV:∀a:Nat,Gd (Lib.decDigits a):=λa=>by
 have c:∀d:Nat,d<10->Gd [UInt8.ofNat (48+d)]:=λd hd b hb=>by
  rw[E7.1 hb]
  have:∀d:Nat,d<10->UInt8.ofNat (48+d)≠10/\UInt8.ofNat (48+d)≠45:=by decide
  exact this d hd
 induction a using Hj with
 |_ a ih=>
  by_cases h:a<10
  .rw[o7 h];exact c a h
  .rw[zN h];exact(ih (a / 10) (by omega)).app (c _ (by omega))
theorem vY {xs:List (List UInt8)}{sep:List UInt8}(hs:Gd sep) (d:∀x∈xs,Gd x):Gd (Lib.join xs sep):=λb hb=>by
 rcases xW hb with h|⟨x,a,c⟩
 .exact hs b h
 .exact d x a b c
theorem sm {K:Nat}(sep:List UInt8):∀(xs:List (List UInt8)),(∀x∈xs,x.length<=K)->(Lib.joinTail sep xs).length<=(sep.length+K) * xs.length
 | [],_=>by simp[Lib.joinTail]
 |x::xs,h=>by
  have:=sm sep xs λc b=>h c (FG _ b)
  have d:=h x (Gi ..)
  have a:Lib.joinTail sep (x::xs)=sep++x++Lib.joinTail sep xs:=by simp[Lib.joinTail]
  rw[a,C9,C9,E1,Nat.mul_succ]
  omega
theorem wm {K:Nat}(sep:List UInt8){xs:List (List UInt8)}(h:∀x∈xs,x.length<=K):(Lib.join xs sep).length<=(sep.length+K) * xs.length:=by
 cases xs with
 |nil=>rw[Lib.join_nil];exact Gz _
 |cons x xs=>
  have:=sm sep xs λb a=>h b (FG _ a)
  have c:=h x (Gi ..)
  rw[Lib.join_cons,C9,E1,Nat.mul_succ]
  omega
theorem AF {xs:VI}(a:∀x∈xs,0<=x/\x<256) (hl:xs.length<=5):∃l,jP xs=some (ofL l)/\Gd l/\l.length<=2000:=by
 obtain⟨e,p,d,q,r,i⟩:=cg (f:=gN xs) (λj (e:List ByteArray)=>∃d:List (List UInt8),e=d.map ofL/\d.length=j/\∀x∈d,Gd x/\x.length<=300) xs.length (s:=[]) ⟨[],rfl,rfl,λ_ h=>by cases h⟩ (λj e hj ⟨d,m,n,o⟩=>by
  subst m
  obtain⟨x,k⟩:∃x,xs[j]? =some x:=⟨_,ct hj⟩
  obtain⟨s,u⟩:=a x (FI k)
  obtain⟨g,rfl⟩:=dD s
  unfold gN
  rw[bT,k,GA,m6 (by omega),GA,app1 (by rw[Gg];omega) rfl,GA]
  refine⟨_,rfl,d++[Lib.decDigits g],by rw[FF];rfl,by rw[C9,n];rfl,λt c=>?_⟩
  rcases E4.1 c with c|c
  .exact o t c
  .rw[E7.1 c]
   have:=oZ g
   exact⟨vV g,by omega⟩)
 have hj:=wm [32] λx a=>(i x a).2
 rw[r]at hj
 have hm:([32]:List UInt8).length+300=301:=rfl
 rw[hm]at hj
 have:301 * xs.length<=301 * 5:=Hi _ hl
 refine⟨Lib.join d [32],?_,vY (by intro b hb;rw[E7.1 hb];decide) λx a=>(i x a).1,by omega⟩
 unfold jP strings_Join
 rw[p,GA,bV,q,show ByteArray.mk #[32]=ofL [32] from rfl,rI (by omega) (by omega)]
 rfl
theorem tI {i:VC}{r:Rival}(h:dF ⟨1,1⟩ i=some (r,true)) (c:RivT r):∃l,en (bn i)=some (ofL l)/\Gd l/\l.length<=1000000:=by
 obtain⟨g,v,d,w,y,m⟩:=cg (f:=e6 (r,true)) (λj (g:List ByteArray)=>∃d:List (List UInt8),g=d.map ofL/\d.length=j/\∀x∈d,Gd x/\x.length<=2000) r.In.length (s:=[]) ⟨[],rfl,rfl,λ_ h=>by cases h⟩ (λj g hj ⟨d,s,t,u⟩=>by
  subst s
  have n:=c.le
  have E:=c.len
  obtain⟨x,p⟩:∃x,r.In[j]? =some x:=⟨_,ct hj⟩
  obtain⟨q,o⟩:∃x,r.Next[j]? =some x:=⟨_,ct (by omega)⟩
  have e:=c.inn x (FI p)
  obtain⟨D,b⟩:=c.nxt q (FI o)
  obtain⟨l,A,B,C⟩:=AF (xs:=[x]++q) (λk a=>by
   rcases E4.1 a with a|a
   .rw[E7.1 a];exact e
   .exact b k a) (by rw[C9];simp only[E1,Gh];omega)
  unfold e6
  dsimp only
  rw[bT,p,GA,bT,o,GA,appL (by simp only[E1,Gh];omega) rfl,GA,A,GA,app1 (by rw[Gg];omega) rfl,GA]
  refine⟨_,rfl,d++[l],by rw[FF];rfl,by rw[C9,t];rfl,λk a=>?_⟩
  rcases E4.1 a with a|a
  .exact u k a
  .rw[E7.1 a];exact⟨B,C⟩)
 have n:=c.le
 have hj:=wm [44,32] λx e=>(m x e).2
 rw[y]at hj
 have hm:([44,32]:List UInt8).length+2000=2002:=rfl
 rw[hm]at hj
 have:2002 * r.In.length<=2002 * 256:=Hi _ n
 have z:Gd [44,32]:=by
  intro b hb
  simp only[E5,E8,or_false]at hb
  rcases hb with rfl|rfl <;> decide
 refine⟨Lib.join d [44,32],?_,vY z λx e=>(m x e).1,by omega⟩
 unfold en
 show FR (dF ⟨1,1⟩ i) _=_
 rw[h]
 unfold strings_Join
 simp only[GA,F7,cond_false]
 rw[v,GA,bV,w,show ByteArray.mk #[44,32]=ofL [44,32] from rfl,rI (by omega) (by omega)]
 rfl
theorem tN {p:Sig}(hs:sigOk p=true) (m:Machine):∃l:List UInt8,fx p m=some (ofL l)/\45∉l/\l.length<=240000:=by
 unfold fx
 rw[jv,hs,kW hs]
 cases hm:machOk p m with
 |false=>exact⟨[],rfl,by simp,by simp⟩
 |true=>
  obtain⟨G,H,I,K,L⟩:=gi hm
  obtain⟨e,v,l,y,z,g⟩:=cg (f:=gF m) (λj (e:ByteArray)=>∃l:List UInt8,e=ofL l/\45∉l/\l.length<=5000 * j) m.Next.length (s:=ofL []) ⟨[],rfl,by simp,by simp⟩ (λj e hj ⟨l,t,u,F⟩=>by
   subst t
   obtain⟨d,i⟩:∃x,m.Next[j]? =some x:=⟨_,ct hj⟩
   obtain⟨k,D,hl,g,a,s⟩:=machRow hm i
   have E:=uG hl
   have q:∀x∈wordsM d k,x.length<=1000/\Gd x:=λx r=>by
    unfold wordsM at r
    obtain⟨⟨c,b⟩,hp,rfl⟩:=FH.1 r
    have n:=List.of_mem_zip hp
    have A:=a c n.1
    have w:=s b n.2
    have:=Ax (a:=c) (b:=b) A.1 (by omega) w.1 (by omega)
    refine⟨by show(vk c b).length<=1000;omega,?_⟩
    exact((vV _).app (by intro b hb;rw[E7.1 hb];decide)).app (vV _)
   have B:=CN i D hl g a s
   have o:=wm [32] λx a=>(q x a).1
   rw[E]at o
   have hm:([32]:List UInt8).length+1000=1001:=rfl
   rw[hm]at o
   have:1001 * d.length<=1001 * 4:=Hi _ g
   have C:Gd (Lib.join (wordsM d k) [32]):=vY (by intro b hb;rw[E7.1 hb];decide) λx a=>(q x a).2
   refine⟨ofL (l++(Lib.join (wordsM d k) [32]++[10])),?_,_,rfl,λhb=>?_,?_⟩
   .unfold gF
    rw[bT,i,GA,B,GA]
    simp only[bV]
    unfold strings_Join
    rw[show ByteArray.mk #[32]=ofL [32] from rfl,rI (by omega) (by omega),GA,show ByteArray.mk #[10]=ofL [10] from rfl,fo (by simp only[E1,Gh];omega),GA,fo (by simp only[C9,E1,Gh];omega),GA]
   .rcases E4.1 hb with hb|hb
    .exact u hb
    .rcases E4.1 hb with hb|hb
     .exact(C _ hb).2 rfl
     .exact absurd (E7.1 hb) (by decide)
   .simp only[C9,E1,Gh]
    omega)
  refine⟨l,?_,z,by omega⟩
  simp only[GA,F7,cond_false]
  rw[show ByteArray.mk #[]=ofL [] from rfl,v,GA,bV,y]
theorem wC {p:Sig}(hs:sigOk p=true) (m:Machine):∃l:List UInt8,(FR (fx p m) λj=>FR (strings_TrimSuffix j (ByteArray.mk #[10])) λk=>FR (strings_ReplaceAll k (ByteArray.mk #[10]) (ByteArray.mk #[44,32])) λn=>some n)=some (ofL l)/\Gd l/\l.length<=1000000:=by
 obtain⟨l,e,f,o⟩:=tN hs m
 have i:∀b∈Lib.trimSuffix l [10],b∈l:=λb hb=>by
  unfold Lib.trimSuffix at hb
  split at hb
  .exact List.mem_of_mem_take hb
  .exact hb
 have q:(Lib.trimSuffix l [10]).length<=l.length:=by
  unfold Lib.trimSuffix
  split
  .rw[FE];omega
  .exact Fg _
 unfold strings_TrimSuffix strings_ReplaceAll
 rw[e,GA,show ByteArray.mk #[10]=ofL [10] from rfl,show ByteArray.mk #[44,32]=ofL [44,32] from rfl,yA (by omega),GA]
 generalize Lib.trimSuffix l [10]=t at *
 rw[BU (by omega) (by decide) (by decide),GA]
 refine⟨_,rfl,λb hb=>?_,?_⟩
 .rcases xW hb with h|⟨x,c,d⟩
  .simp only[E5,E8,or_false]at h
   rcases h with rfl|rfl <;> decide
  .refine⟨λa=>xa c (by rw[← a];exact d),λa=>f ?_⟩
   have:=BA (sep:=[10]) c d
   rw[Ar]at this
   rw[← a];exact i b this
 .have g:=yi 10 [44,32] t
  have:([44,32]:List UInt8).length=2:=rfl
  rw[this]at g
  omega
set_option maxRecDepth 100000
def chkT (k:Int) (A B:VI):Bool:=match gV ⟨k,A,B⟩ with
 |some a=>decide (10∉a.data.toList)&&(decide (a.data.toList.length<=60)&&match gG a with
  |some (c,b)=>b&&decide (c.Kind=k/\c.A=A/\c.B=B)
  |none=>false)
 |none=>false
def n7:VV:=[[],[0],[1],[0,1],[2],[0,2],[1,2],[0,1,2],[3],[0,3],[1,3],[0,1,3],[2,3],[0,2,3],[1,2,3],[0,1,2,3]]
def chkQ (k:Int) (i:Nat):Bool:=((n7.drop (4 * i)).take 4).all λA=>n7.all λB=>chkT k A B
theorem Dz:chkQ 2 0=true:=by decide +kernel
theorem DA:chkQ 2 1=true:=by decide +kernel
theorem DB:chkQ 2 2=true:=by decide +kernel
theorem DC:chkQ 2 3=true:=by decide +kernel
theorem DD:chkQ 3 0=true:=by decide +kernel
theorem DE:chkQ 3 1=true:=by decide +kernel
theorem DF:chkQ 3 2=true:=by decide +kernel
theorem DG:chkQ 3 3=true:=by decide +kernel
theorem DH:chkQ 7 0=true:=by decide +kernel
theorem DI:chkQ 7 1=true:=by decide +kernel
theorem DJ:chkQ 7 2=true:=by decide +kernel
theorem DK:chkQ 7 3=true:=by decide +kernel
theorem chk1:(([1,4,5,6]:VI).all λk=>n7.all λA=>chkT k A [])=true:=by decide +kernel
theorem oX {k:Int}(h0:chkQ k 0=true) (a:chkQ k 1=true) (b:chkQ k 2=true) (c:chkQ k 3=true){A B:VI}(d:A∈n7) (f:B∈n7):chkT k A B=true:=by
 unfold chkQ at h0 a b c
 rw[Gc]at h0 a b c
 have e:n7=((n7.drop (4 * 0)).take 4++(n7.drop (4 * 1)).take 4)++((n7.drop (4 * 2)).take 4++(n7.drop (4 * 3)).take 4):=rfl
 rw[e,E4,E4,E4]at d
 refine Gc.1 ?_ B f
 rcases d with (h|h)|(h|h)
 .exact h0 A h
 .exact a A h
 .exact b A h
 .exact c A h
theorem yy {A:VI}(h:St 4 A):A∈n7:=by
 have c:A=([0,1,2,3]:VI).filter λx=>decide (x∈A):=mT h.asc ((show Asc [0,1,2,3] by unfold Asc;decide).filter _) λe=>by
  rw[Gj,decide_eq_true_eq]
  refine⟨λb=>⟨?_,b⟩,λb=>b.2⟩
  have:=h.rng e b
  simp only[E5,E8,or_false]
  omega
 have d:∀a:Int->Bool,([0,1,2,3]:VI).filter a∈n7:=λa=>by
  simp only[List.filter]
  cases a 0 <;> cases a 1 <;> cases a 2 <;> cases a 3 <;> decide
 rw[c]
 exact d _
theorem xv {c:Clause}(l:cK ⟨1,1⟩ c=true):∃e:List UInt8,gV c=some (ofL e)/\10∉e/\e.length<=60/\gG (ofL e)=some (c,true):=by
 obtain⟨k,A,B⟩:=c
 have hk:chkT k A B=true:=by
  unfold cK at l
  simp only[ra,Bool.or_eq_true,beq_iff_eq,decide_eq_true_eq]at l
  obtain⟨⟨⟨⟨v,w⟩,a⟩,d⟩,hs⟩:=l
  have hl:ltr (⟨1,1⟩:Sig)=((4:Nat):Int):=by decide
  rw[hl]at a d
  have a:=yy (St.of a)
  have d:=yy (St.of d)
  have j:=Gc.1 chk1
  have t:k∈([1,4,5,6]:VI)->B=[]->chkT k A B=true:=λh n=>by
   rw[n];exact Gc.1 (j k h) A a
  rcases hs with ((rfl|rfl)|rfl)|hs
  .exact oX Dz DA DB DC a d
  .exact oX DD DE DF DG a d
  .exact oX DH DI DJ DK a d
  .have q:B=[]:=GI.1 (by omega)
   by_cases f:k=2
   .subst f;exact oX Dz DA DB DC a d
   by_cases g:k=3
   .subst g;exact oX DD DE DF DG a d
   by_cases o:k=7
   .subst o;exact oX DH DI DJ DK a d
   refine t ?_ q
   simp only[E5,E8,or_false]
   omega
 unfold chkT at hk
 split at hk
 .rename_i e s
  rw[ra,ra,decide_eq_true_eq,decide_eq_true_eq]at hk
  obtain⟨j,p,i⟩:=hk
  split at i
  .rename_i c b r
   rw[ra,decide_eq_true_eq]at i
   obtain⟨rfl,m,f,g⟩:=i
   refine⟨e.data.toList,by rw[oA];exact s,j,p,?_⟩
   rw[oA,r]
   obtain⟨u,A',B'⟩:=c
   dsimp only at m f g
   rw[m,f,g]
  .cases i
 .cases hk
end Go.Proofs.YtldlmopdhmaceaaGreatDoor
