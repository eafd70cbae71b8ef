/- The walk's base: environments of temporaries as lists, regions in one order, steps. -/
import Derived.WalkKit
import Derived.ProofKit
import Derived.Orders
import Derived.Still
import Derived.KernelRfl
import Derived.Great.BuildSlice
set_option linter.unusedVariables false
set_option linter.unusedSimpArgs false
open Array renaming getElem?_eq_none → pf, getElem?_eq_some_iff → pm, getElem?_setIfInBounds_ne → pr, replicate → q0, setIfInBounds_comm → ra
open Bool renaming and_eq_true → rx, false_eq_true → r0
open Classical renaming choose → ym, choose_spec → yn
open List renaming getElem?_eq_some_iff → yo, getElem?_take → yp, length_append → yq, length_cons → yr, map_cons → yt, mem_append → yu, mem_cons → yv, mem_singleton → yw, not_mem_nil → yx
open Nat renaming add_mul → yy, add_right_comm → yz, beq → yA, ble → yB, blt → yC, eq_of_beq_eq_true → yD, le_refl → yE, lt_of_lt_of_le → yF, lt_or_ge → yG, zero_add → yH
open Option.some renaming injEq → yJ
namespace Go.Wk
open Go
abbrev Env:=List (Nat×Value)
def look:Env->Nat->Option Value
 | [],_=>none
 |(k,v)::r,t=>bif yA k t then some v else look r t
def opd (L:Env):Operand->Option Value
 |.tmp t=>look L t
 |.const v=>some v
 |.global b=>some (.pointer (some ⟨b,0,none⟩))
 |.func a=>some (.func (.func a) #[] #[])
def Kn (n:Nat) (L:Env) (a:Act):Prop:=a.defers=[]/\a.tmps.size=n/\∀t v,look L t=some v->a.tmps[t]? =some v
theorem Kn.eval {n:Nat}{L:Env}{a:Act}(h:Kn n L a){x:Operand}{v:Value}(hx:opd L x=some v):a.eval x=v:=by
 cases x with
 |tmp t=>have:=h.2.2 t v hx;simp[Act.eval,this]
 |const d=>simpa [opd,Act.eval] using hx
 |global c=>simpa [opd,Act.eval] using hx
 |func b=>simpa [opd,Act.eval] using hx
theorem Kn.put {n:Nat}{L:Env}{a:Act}(h:Kn n L a){d:Nat}(e:yC d n=true) (v:Value):Kn n ((d,v)::L) (a.put (some d) v):=by
 have f:d<n:=Nat.ble_eq.mp e
 refine⟨h.1,by simpa [Act.put] using h.2.1,λt g b=>?_⟩
 simp only[look]at b
 by_cases c:d=t
 .subst c
  simp at b
  simp[Act.put,h.2.1,f,b]
 .have:yA d t=false:=by
   cases h:yA d t with
   |false=>rfl
   |true=>exact absurd (yD h) c
  simp only[this,cond_false]at b
  simp only[Act.put]
  rw[pr c]
  exact h.2.2 t g b
theorem Kn.nil {n:Nat}{L:Env}{a:Act}(h:Kn n L a):Kn n [] a:=⟨h.1,h.2.1,λ_ _ b=>by cases b⟩
theorem Kn.more {n:Nat}{L L':Env}{a:Act}(h:Kn n L a) (d:Kn n L' a){t:Nat}{v:Value}(ht:look L t=some v):Kn n ((t,v)::L') a:=
 ⟨h.1,h.2.1,λc x hx=>by
  simp only[look]at hx
  by_cases b:yA t c=true
  .simp only[b,cond_true,yJ]at hx
   have:t=c:=yD b
   subst this;subst hx
   exact h.2.2 t v ht
  .simp only[Bool.not_eq_true]at b
   simp only[b,cond_false]at hx
   exact d.2.2 c x hx⟩
structure Fr (S:Nat->Prop) (w w':World):Prop where
 os:w'.os=w.os
 tape:w'.tape=w.tape
 output:w'.output=w.output
 size:w.heap.size<=w'.heap.size
 block:∀b,S b->w'.heap[b]? =w.heap[b]?
theorem Fr.refl (S:Nat->Prop) (w:World):Fr S w w:=⟨rfl,rfl,rfl,yE _,λ_ _=>rfl⟩
theorem Fr.trans {S:Nat->Prop}{a b c:World}(h:Fr S a b) (k:Fr S b c):Fr S a c:=
 ⟨k.os.trans h.os,k.tape.trans h.tape,k.output.trans h.output,Nat.le_trans h.size k.size,λi d=>(k.block i d).trans (h.block i d)⟩
theorem Fr.mono {S S':Nat->Prop}{a b:World}(h:Fr S a b) (d:∀b,S' b->S b):Fr S' a b:=⟨h.os,h.tape,h.output,h.size,λi c=>h.block i (d i c)⟩
theorem Fr.cell {S:Nat->Prop}{w w':World}(h:Fr S w w'){p:Addr}(a:S p.block):w'.cell? p=w.cell? p:=World.cell?_of_block (h.block _ a)
def All (w:World):Nat->Prop:=λb=>b<w.heap.size
abbrev Ext (w w':World):Prop:=Fr (All w) w w'
theorem Ext.trans {a b c:World}(h:Ext a b) (k:Ext b c):Ext a c:=Fr.trans h (Fr.mono k (λ_ d=>yF d h.size))
theorem Ext.below {w w':World}(h:Ext w w'):RowKit.Below w.heap.size w w':=⟨h.os,h.tape,h.output,h.size,h.block⟩
theorem Ext.of_below {w w':World}(h:RowKit.Below w.heap.size w w'):Ext w w':=⟨h.os,h.tape,h.output,h.size,h.block⟩
theorem Ext.alloc (w:World) (o:Obj):Ext w (w.alloc o):=Ext.of_below ((RowKit.Below.refl _ _).alloc (yE _) o)
theorem Ext.drew (w:World):Ext w { w with drawn:=w.drawn+1 }:=⟨rfl,rfl,rfl,yE _,λ_ _=>rfl⟩
def Runs (P:Program) (o:Oper) (a:Act) (w:World) (K:Value->World->Prop):Prop:=
 match (execOp a.eval o).run P w with
 |.ok (.value v) w'=>K v w'
 |.ok .skip w'=>K undef w'
 |.ok (.enter d b) w'=>Calls P d b w' (λc e=>∃v,c= .returned v/\K v e)
 |_=>False
theorem Runs.mono {P:Program}{o:Oper}{a:Act}{w:World}{K K':Value->World->Prop}(h:Runs P o a w K) (b:∀v w',K v w'->K' v w'):Runs P o a w K':=by
 unfold Runs at *
 split at h
 .exact b _ _ h
 .exact b _ _ h
 .exact h.mono λe f ⟨v,c,d⟩=>⟨v,c,b _ _ d⟩
 .exact h.elim
theorem Runs.wp {P:Program}{o:Oper}{a:Act}{w:World}{N:Act->World->Prop}{Q:Exit->Act->World->Prop}
 (h:Runs P o a w (λv w'=>N (a.put o.dst v) w')):o.wp P a w N Q:=by
 unfold Runs at h
 unfold Oper.wp
 split at h
 .rename_i v w' b;rw[b];exact h
 .rename_i w' b;rw[b];exact h
 .rename_i g e w' b;rw[b]
  exact h.mono λf i ⟨v,c,d⟩=>by subst c;exact d
 .exact h.elim
section
variable {P:Program}{ops:Array Oper}{md:Region.Mode}{C:World->Prop}{N:Act->World->Prop}
def rOp (P:Program) (ops:Array Oper) (C:World->Prop) (i:Nat) (K:Act->World->Prop) (a:Act) (w:World):Prop:=
 match ops[i]? with
 |none=>K a w
 |some o=>if Region.wanted o (yielded ops a.tmps) then Runs P o a w (λv w'=>C w'/\K (a.put o.dst v) w') else K (a.put o.dst undef) w
theorem fS {i:Nat}{a:Act}{w:World}{K K':Act->World->Prop}(f:C w) (h:∀a w,C w->K a w->K' a w) (b:rOp P ops C i K a w):rOp P ops C i K' a w:=by
 unfold rOp at *
 split
 .rename_i d;simp only[d]at b;exact h _ _ f b
 .rename_i o d
  simp only[d]at b
  split
  .rename_i e;simp only[e,if_true]at b;exact b.mono λv w' ⟨c,k⟩=>⟨c,h _ _ c k⟩
  .rename_i e;simp only[e]at b;exact h _ _ f b
theorem jg {i:Nat}{a:Act}{w:World}{K:Act->World->Prop}{Q:Exit->Act->World->Prop}(b:rOp P ops C i K a w):wpOp P ops Q i K a w:=by
 unfold rOp at b
 unfold wpOp
 split
 .rename_i c;simp only[c]at b;exact b
 .rename_i o c
  simp only[c]at b
  split
  .rename_i d;simp only[d,if_true]at b;exact .inl (Runs.wp (b.mono λv w' ⟨_,k⟩=>k))
  .rename_i d;simp only[d]at b;exact b
def Qy (P:Program) (ops:Array Oper) (C:World->Prop) (o:Oper) (v:Value) (a:Act):Prop:=
 (Region.wanted o (yielded ops a.tmps)=true/\∀w,C w->(execOp a.eval o).run P w= .ok (.value v) w)\/(Region.wanted o (yielded ops a.tmps)=false/\v=undef)
theorem Qy.rOp {i:Nat}{o:Oper}{v:Value}{a:Act}{w:World}{K:Act->World->Prop}(hi:ops[i]? =some o) (hy:Qy P ops C o v a) (c:C w) (h:K (a.put o.dst v) w):rOp P ops C i K a w:=by
 unfold Wk.rOp
 simp only[hi]
 rcases hy with ⟨b,d⟩|⟨b,rfl⟩
 .simp only[b,if_true,Runs,d w c];exact⟨c,h⟩
 .simp only[b,r0,if_false];exact h
theorem Qy.of_same {o:Oper}{v:Value}{a a':Act}(hy:Qy P ops C o v a) (b:execOp a'.eval o=execOp a.eval o)
 (c:Region.wanted o (yielded ops a'.tmps)=Region.wanted o (yielded ops a.tmps)):Qy P ops C o v a':=by
 unfold Qy at *
 rw[b,c]
 exact hy
def CL (l:Option Nat) (C:World->Prop) (listed:Array Bool) (w:World):Prop:=match l with
 |none=>C w
 |some l=>listed.getD l false=true\/C w
theorem CL.of {l:Option Nat}{C:World->Prop}{listed:Array Bool}{w:World}(h:C w):CL l C listed w:=by
 cases l with
 |none=>exact h
 |some l=>exact .inr h
theorem CL.set_ne {l:Option Nat}{C:World->Prop}{listed:Array Bool}{w:World}{i:Nat}(hi:l≠some i) (h:CL l C (listed.setIfInBounds i true) w):CL l C listed w:=by
 cases l with
 |none=>exact h
 |some l=>
  refine h.imp (λh=>?_) id
  rwa [getD_set_ne false (λa=>hi (by rw[a]))]at h
theorem CL.ne_set {l:Option Nat}{C:World->Prop}{listed:Array Bool}{w:World}{i:Nat}(h:CL l C listed w):CL l C (listed.setIfInBounds i true) w:=by
 cases l with
 |none=>exact h
 |some l=>exact h.imp getD_set_true id
def Dc (md:Region.Mode) (ops:Array Oper) (listed:Array Bool):Prop:=∀(j:Nat) o,ops[j]? =some o->listed.getD j false=true->∀a∈o.after,Region.binds md a=true->listed.getD a.on false=true
theorem Dc.set {listed:Array Bool}{i:Nat}(h:Dc md ops listed) (hi:i∈Region.ready md ops listed):Dc md ops (listed.setIfInBounds i true):=by
 intro j o e f a c b
 by_cases d:i=j
 .subst d
  obtain⟨_,l,g,k⟩:=mem_ready.1 hi
  rw[e]at g
  obtain rfl:=Option.some.inj g
  exact getD_set_true (k a c b)
 .rw[getD_set_ne false d]at f
  exact getD_set_true (h j o e f a c b)
def ancB (md:Region.Mode) (ops:Array Oper):Nat->Nat->Nat->Bool
 |0,_,_=>false
 |f+1,i,l=>match ops[l]? with
  |none=>false
  |some o=>o.after.any λa=>Region.binds md a&&(yA a.on i||ancB md ops f i a.on)
theorem Dc.anc {listed:Array Bool}(h:Dc md ops listed){i:Nat}:∀(f l:Nat),ancB md ops f i l=true->listed.getD l false=true->listed.getD i false=true
 |0,_,hb,_=>by cases hb
 |f+1,l,hb,hl=>by
  unfold ancB at hb
  split at hb
  .cases hb
  .rename_i o e
   obtain⟨k,g,b⟩:=Array.any_iff_exists.1 hb
   have d:o.after[k]∈o.after:=Array.getElem_mem _
   simp only[rx,Bool.or_eq_true]at b
   have c:=h l o e hl _ d b.2.2.1
   rcases b.2.2.2 with a|a
   .rw[← yD a];exact c
   .exact Dc.anc h f _ a c
def wAnyL (P:Program) (md:Region.Mode) (ops:Array Oper) (l:Option Nat) (C:World->Prop) (N:Act->World->Prop):Nat->Array Bool->Act->World->Prop
 |0,listed,a,w=>Region.ready md ops listed=[]/\N a w
 |fuel+1,listed,a,w=>
  (Region.ready md ops listed=[]->N a w) /\
  ∀i∈Region.ready md ops listed,rOp P ops (CL l C (listed.setIfInBounds i true)) i (wAnyL P md ops l C N fuel (listed.setIfInBounds i true)) a w
theorem dV {l:Option Nat}{Q:Exit->Act->World->Prop}(b:∀a w,N a w->Q .normal a w):∀(fuel:Nat) (listed:Array Bool) (a:Act) (w:World),
 wAnyL P md ops l C N fuel listed a w->wpAny P md ops Q fuel listed a w
 |0,_,_,_,h=>⟨h.1,b _ _ h.2⟩
 |fuel+1,_,a,w,h=>⟨λe=>b _ _ (h.1 e),λi f=>jg (C:=λ_=>True) (by
  have:=h.2 i f
  unfold rOp at *
  split
  .rename_i c;simp only[c]at this;exact dV b fuel _ _ _ this
  .rename_i o c
   simp only[c]at this
   split
   .rename_i d;simp only[d,if_true]at this;exact this.mono λv w' ⟨_,k⟩=>⟨trivial,dV b fuel _ _ _ k⟩
   .rename_i d;simp only[d]at this;exact dV b fuel _ _ _ this)⟩
theorem uU {D:World->Prop}{j:Nat}{c d:Oper}{v:Value}(q:ops[j]? =some d) (n:c.apart ops d=true)
 (s:∀cs b,c.op≠ .select cs b) (t:∀cs b,d.op≠ .select cs b) {K:Act->World->Prop} {a:Act} {w:World}
 (hy:Qy P ops D c v a) (h:rOp P ops C j K (a.put c.dst v) w):
 rOp P ops C j (λk w'=>Qy P ops D c v k/\K (k.put c.dst v) w') a w:=by
 obtain⟨l,f,m⟩:=Oper.apart_spec n
 have g:∀e,Qy P ops D c v (a.put d.dst e):=λe=>
  hy.of_same (execOp_put c s a d.dst e m) (wanted_put c a d.dst e m)
 unfold rOp at *
 simp only[q]at *
 rw[wanted_put d a c.dst v l]at h
 split
 .rename_i i
  simp only[i,if_true]at h
  unfold Runs at *
  rw[execOp_put d t a c.dst v l]at h
  split at h
  .exact⟨h.1,g _,by rw[← Act.put_comm a v _ f];exact h.2⟩
  .exact⟨h.1,g _,by rw[← Act.put_comm a v _ f];exact h.2⟩
  .exact h.mono λu x ⟨e,p,o,r⟩=>⟨e,p,o,g _,by rw[← Act.put_comm a v _ f];exact r⟩
  .exact h.elim
 .rename_i i
  simp only[i]at h
  exact⟨g _,by rw[← Act.put_comm a v undef f];exact h⟩
theorem eV {C':World->Prop}{i:Nat}{a:Act}{w:World}{K K':Act->World->Prop}(g:C' w) (f:∀w,C w->C' w) (h:∀a w,C' w->K a w->K' a w) (b:rOp P ops C i K a w):rOp P ops C' i K' a w:=by
 unfold rOp at *
 split
 .rename_i d;simp only[d]at b;exact h _ _ g b
 .rename_i o d
  simp only[d]at b
  split
  .rename_i e;simp only[e,if_true]at b;exact b.mono λv w' ⟨c,k⟩=>⟨f _ c,h _ _ (f _ c) k⟩
  .rename_i e;simp only[e]at b;exact h _ _ g b
theorem ia {l:Option Nat}{D:World->Prop}{i:Nat}{g:Oper}{v:Value}(hi:ops[i]? =some g) (W:l≠some i) (O:∀listed w,Dc md ops listed->i∈Region.ready md ops listed->CL l C listed w->D w)
 (K:∀(j:Nat) (o:Oper) cs b,ops[j]? =some o->o.op≠ .select cs b):
 ∀(fuel:Nat) (listed:Array Bool) (a:Act) (w:World),Dc md ops listed ->
  (∀j n,ops[j]? =some n->j≠i->listed.getD j true=false->(∀e∈n.after,Region.binds md e=true->e.on≠i)->g.apart ops n=true) ->
  i∈Region.ready md ops listed->Qy P ops D g v a->CL l C listed w ->
  wAnyL P md ops l C N fuel (listed.setIfInBounds i true) (a.put g.dst v) w->wAnyL P md ops l C N (fuel+1) listed a w:=by
 have z:∀(t:Act->World->Prop) (listed:Array Bool) (a:Act) (w:World),Dc md ops listed->i∈Region.ready md ops listed->Qy P ops D g v a->CL l C listed w->t (a.put g.dst v) w ->
  rOp P ops (CL l C (listed.setIfInBounds i true)) i t a w:=by
  intro t listed a w p d hy m s
  unfold Wk.rOp
  simp only[hi]
  rcases hy with ⟨c,x⟩|⟨c,rfl⟩
  .simp only[c,if_true,Runs,x w (O listed w p d m)];exact⟨m.ne_set,s⟩
  .simp only[c,r0,if_false];exact s
 intro fuel
 induction fuel with
 |zero=>
  intro listed a w p _ d hy m H
  refine⟨λh=>(by rw[h]at d;cases d),λj q=>?_⟩
  by_cases f:j=i
  .subst f;exact z _ listed a w p d hy m H
  .have:=ready_mono q f
   rw[H.1]at this
   cases this
 |succ fuel aa=>
  intro listed a w p F d hy m H
  refine⟨λh=>(by rw[h]at d;cases d),λj q=>?_⟩
  by_cases f:j=i
  .subst f;exact z _ listed a w p d hy m H
  .have c:=H.2 j (ready_mono q f)
   obtain⟨I,n,y,Q⟩:=mem_ready.1 q
   have Y:∀e∈n.after,Region.binds md e=true->e.on≠i:=λe S R T=>by
    have c:=Q e S R
    have A:=(mem_ready.1 d).1
    rw[T]at c
    rcases yG i listed.size with u|u
    .simp[u]at A c;rw[A]at c;cases c
    .simp[pf u]at c
   have x:=uU y (F j n y f I Y) (λcs b=>K i g cs b hi) (λcs b=>K j n cs b y) hy c
   have U:∀k r,ops[k]? =some r->k≠i->(listed.setIfInBounds j true).getD k true=false ->
    (∀e∈r.after,Region.binds md e=true->e.on≠i)->g.apart ops r=true:=λk r s V L X=>by
    refine F k r s V ?_ X
    by_cases G:j=k
    .subst G;exact I
    .rw[getD_set_ne true G]at L;exact L
   refine eV m.ne_set (λw' E=>?_) (λM w' Z B=>aa (listed.setIfInBounds j true) M w' (p.set q) U (ready_mono d (Ne.symm f)) B.1 Z ?_) x
   .rw[ra _ _ (Ne.symm f)]at E
    exact CL.set_ne W E
   .rw[ra _ _ f]
    exact B.2
def Wlk (P:Program) (ops:Array Oper) (C:World->Prop) (N:Act->World->Prop):List (Nat×Nat)->Act->World->Prop
 | [],a,w=>N a w
 |(i,0)::r,a,w=>∃o v,ops[i]? =some o/\Qy P ops C o v a/\Wlk P ops C N r (a.put o.dst v) w
 |(i,1)::r,a,w=>rOp P ops C i (Wlk P ops C N r) a w
 |(i,_+2)::r,a,w=>∃o v,ops[i]? =some o/\Qy P ops (λ_=>True) o v a/\Wlk P ops C N r (a.put o.dst v) w
def ordB (md:Region.Mode) (ops:Array Oper) (l:Option Nat):List (Nat×Nat)->Array Bool->List (Nat×Nat)->Bool
 | [],listed,o2=>ord2 listed o2
 |(i,1)::r,listed,o2=>(match Region.ready md ops listed with | [j]=>yA j i | _=>false)&&ne i&&ordB md ops l r (listed.setIfInBounds i true) o2
 |(i,k)::r,listed,o2=>(Region.ready md ops listed).contains i&&Region.free md ops listed i&&ne i&&(yA k 2||(yA k 0&&anc i))&&ordB md ops l r (listed.setIfInBounds i true) o2
where
 ne (i:Nat):Bool:=match l with | none=>true | some l=> !(yA l i)
 anc (i:Nat):Bool:=match l with | none=>true | some l=>ancB md ops ops.size i l
 ord2:Array Bool->List (Nat×Nat)->Bool
  |listed,[]=>(Region.ready md ops listed).isEmpty
  |listed,(i,1)::r=>(match Region.ready md ops listed with | [j]=>yA j i | _=>false)&&lis i listed&&ord2 (listed.setIfInBounds i true) r
  |listed,(i,k)::r=>(Region.ready md ops listed).contains i&&Region.free md ops listed i&&ne i&&yA k 2&&ord2 (listed.setIfInBounds i true) r
 lis (i:Nat) (listed:Array Bool):Bool:=match l with | none=>false | some l=>(listed.setIfInBounds i true).getD l false
def ordOk (ops:Array Oper) (l:Option Nat) (a b:List (Nat×Nat)):Bool:=yA (a.length+b.length) ops.size&&Region.noSelect ops&&ordB .any ops l a (q0 ops.size false) b
theorem sM {listed:Array Bool}{i:Nat}(h:(match Region.ready md ops listed with | [j]=>yA j i | _=>false)=true):Region.ready md ops listed=[i]:=by
 split at h
 .rename_i j a;rw[a,yD h]
 .cases h
theorem mn {l:Option Nat}{i:Nat}(h:ordB.ne l i=true):l≠some i:=by
 intro a
 subst a
 simp[ordB.ne,Nat.beq_refl]at h
theorem j5 {l:Option Nat}(j:Region.noSelect ops=true):∀(m:List (Nat×Nat)) (listed:Array Bool) (a:Act) (w:World),ordB.ord2 md ops l listed m=true->Dc md ops listed->CL l C listed w ->
 Wlk P ops (λ_=>True) N m a w->wAnyL P md ops l C N m.length listed a w
 | [],_,_,_,hB,_,_,h=>⟨by simpa [ordB.ord2] using hB,h⟩
 |(i,1)::r,listed,a,w,hB,hdc,hw,h=>by
  simp only[ordB.ord2,rx]at hB
  obtain⟨⟨e,b⟩,f⟩:=hB
  have g:=sM e
  have d:i∈Region.ready md ops listed:=by rw[g];exact yw.2 rfl
  refine⟨λb=>(by rw[g]at b;cases b),λk c=>?_⟩
  rw[g]at c
  simp only[yw]at c
  subst c
  have n:∀w',CL l C (listed.setIfInBounds k true) w':=λw'=>by
   cases l with
   |none=>simp[ordB.lis]at b
   |some l=>exact .inl b
  exact eV (n w) (λw' _=>n w') (λq w' u k'=>j5 j r _ q w' f (hdc.set d) u k') h
 |(i,0)::r,listed,a,w,hB,_,_,_=>by simp[ordB.ord2]at hB
 |(i,k+2)::r,listed,a,w,hB,hdc,hw,h=>by
  simp only[ordB.ord2,rx]at hB
  obtain⟨⟨⟨⟨e,f⟩,s⟩,_⟩,t⟩:=hB
  obtain⟨o,v,p,hy,c⟩:=h
  have d:i∈Region.ready md ops listed:=by simpa using e
  exact ia (D:=λ_=>True) p (mn s) (λ_ _ _ _ _=>trivial) (Region.noSelect_spec j) r.length listed a w hdc (Region.free_spec p f) d hy hw (j5 j r _ _ w t (hdc.set d) hw.ne_set c)
theorem kZ {l:Option Nat}{e:List (Nat×Nat)}(f:Region.noSelect ops=true):∀(y:List (Nat×Nat)) (listed:Array Bool) (a:Act) (w:World),ordB md ops l y listed e=true->Dc md ops listed->CL l C listed w->C w ->
 Wlk P ops C (λa w=>Wlk P ops (λ_=>True) N e a w) y a w->wAnyL P md ops l C N (y.length+e.length) listed a w
 | [],listed,a,w,hB,hdc,hw,_,h=>by
  rw[List.length_nil,yH]
  exact j5 f e listed a w hB hdc hw h
 |(i,1)::r,listed,a,w,hB,hdc,hw,c,h=>by
  simp only[ordB,rx]at hB
  obtain⟨⟨j,_⟩,m⟩:=hB
  have p:=sM j
  have d:i∈Region.ready md ops listed:=by rw[p];exact yw.2 rfl
  rw[yr,yz]
  refine⟨λz=>(by rw[p]at z;cases z),λk b=>?_⟩
  rw[p]at b
  simp only[yw]at b
  subst b
  have g:rOp P ops C k (λa w=>C w/\Wlk P ops C (λa w=>Wlk P ops (λ_=>True) N e a w) r a w) a w:=fS c (λ_ _ c b=>⟨c,b⟩) h
  exact eV (CL.of c) (λw'=>CL.of) (λB w' H k'=>kZ f r _ B w' m (hdc.set d) H k'.1 k'.2) g
 |(i,0)::r,listed,a,w,hB,hdc,hw,c,h=>by
  simp only[ordB,rx]at hB
  obtain⟨⟨⟨⟨j,m⟩,s⟩,E⟩,t⟩:=hB
  obtain⟨o,v,n,hy,b⟩:=h
  have d:i∈Region.ready md ops listed:=by simpa using j
  rw[yr,yz]
  have F:ordB.anc md ops l i=true:=by simpa using E
  refine ia (D:=C) n (mn s) (λI w' G p A=>?_) (Region.noSelect_spec f) (r.length+e.length) listed a w hdc (Region.free_spec n m) d hy hw (kZ f r _ _ w t (hdc.set d) hw.ne_set c b)
  cases l with
  |none=>exact A
  |some l=>
   rcases A with q|q
   .have u:=G.anc _ _ F q
    have x:=(mem_ready.1 p).1
    rcases yG i I.size with g|g
    .simp[g]at u x;rw[u]at x;cases x
    .simp[pf g]at u
   .exact q
 |(i,k+2)::r,listed,a,w,hB,hdc,hw,c,h=>by
  simp only[ordB,rx]at hB
  obtain⟨⟨⟨⟨j,m⟩,s⟩,_⟩,t⟩:=hB
  obtain⟨o,v,n,hy,b⟩:=h
  have d:i∈Region.ready md ops listed:=by simpa using j
  rw[yr,yz]
  exact ia (D:=λ_=>True) n (mn s) (λ_ _ _ _ _=>trivial) (Region.noSelect_spec f) (r.length+e.length) listed a w hdc (Region.free_spec n m) d hy hw (kZ f r _ _ w t (hdc.set d) hw.ne_set c b)
theorem pt {id:Nat}{Q:Exit->Act->World->Prop}{a:Act}{w:World}(l:Option Nat) (b d:List (Nat×Nat)) (n:P.follows .mixedOrders=true) (g:ordOk ops l b d=true)
 (i:C { w with drawn:=w.drawn+1 }) (h:Wlk P ops C (λa w=>Wlk P ops (λ_=>True) (λa w=>Q .normal a w) d a w) b a { w with drawn:=w.drawn+1 }):(Code.region id ops true).wp P Q a w:=by
 simp only[ordOk,rx]at g
 obtain⟨⟨e,m⟩,f⟩:=g
 refine wp_region_any n (dV (N:=λa w=>Q .normal a w) (l:=l) (C:=C) (λ_ _ h=>h) _ _ _ _ ?_)
 rw[← yD e]
 rw[← yD e]at f
 refine kZ m b _ a _ f ?_ (CL.of i) i h
 intro j o _ k
 exfalso
 rcases yG j (b.length+d.length) with c|c
 .simp[c]at k
 .simp[pf,c]at k
theorem iv {Q:Exit->Act->World->Prop}:∀(d:List (Nat×Nat)) (a:Act) (w:World),C w ->
 Wlk P ops C (λa w=>Q .normal a w) d a w->wpOps P ops Q (d.map (·.1)) a w
 | [],_,_,_,h=>h
 |(i,1)::r,a,w,hw,h=>by
  simp only[yt,wpOps_cons]
  exact jg (C:=C) (fS hw (λe w' f k=>iv r e w' f k) h)
 |(i,0)::r,a,w,hw,h=>by
  simp only[yt,wpOps_cons]
  obtain⟨o,v,c,hy,b⟩:=h
  exact jg (C:=C) (hy.rOp c hw (iv r _ w hw b))
 |(i,k+2)::r,a,w,hw,h=>by
  simp only[yt,wpOps_cons]
  obtain⟨o,v,c,hy,b⟩:=h
  exact jg (C:=λ_=>True) (hy.rOp c trivial (iv r _ w hw b))
theorem pu {id:Nat}{Q:Exit->Act->World->Prop}{a:Act}{w:World}(b:List (Nat×Nat)) (c:b.map (·.1)=List.range ops.size)
 (d:C w) (h:Wlk P ops C (λa w=>Q .normal a w) b a w):(Code.region id ops false).wp P Q a w:=
 wp_region (by rw[← c];exact iv b a w d h)
def setAll:List (Nat×Nat)->Array Bool->Array Bool
 | [],s=>s
 |(i,_)::r,s=>setAll r (s.setIfInBounds i true)
def segB (md:Region.Mode) (ops:Array Oper) (l:Option Nat):List (Nat×Nat)->Array Bool->Bool
 | [],_=>true
 |(i,1)::r,listed=>(match Region.ready md ops listed with | [j]=>yA j i | _=>false)&&ordB.ne l i&&segB md ops l r (listed.setIfInBounds i true)
 |(i,k)::r,listed=>(Region.ready md ops listed).contains i&&Region.free md ops listed i&&ordB.ne l i&&(yA k 2||(yA k 0&&ordB.anc md ops l i))&&segB md ops l r (listed.setIfInBounds i true)
theorem la {l:Option Nat}{fuel:Nat}(n:Region.noSelect ops=true):∀(p:List (Nat×Nat)) (listed:Array Bool) (a:Act) (w:World),segB md ops l p listed=true->Dc md ops listed->CL l C listed w->C w ->
 Wlk P ops C (λa w=>C w->Dc md ops (setAll p listed)->wAnyL P md ops l C N fuel (setAll p listed) a w) p a w->wAnyL P md ops l C N (p.length+fuel) listed a w
 | [],listed,a,w,_,hdc,_,b,h=>by
  rw[List.length_nil,yH]
  exact h b hdc
 |(i,1)::r,listed,a,w,hB,hdc,hw,b,h=>by
  simp only[segB,rx]at hB
  obtain⟨⟨f,_⟩,g⟩:=hB
  have m:=sM f
  have d:i∈Region.ready md ops listed:=by rw[m];exact yw.2 rfl
  rw[yr,yz]
  refine⟨λy=>(by rw[m]at y;cases y),λk c=>?_⟩
  rw[m]at c
  simp only[yw]at c
  subst c
  have e:rOp P ops C k (λa w=>C w/\Wlk P ops C (λa w=>C w->Dc md ops (setAll ((k,1)::r) listed)->wAnyL P md ops l C N fuel (setAll ((k,1)::r) listed) a w) r a w) a w:=fS b (λ_ _ b c=>⟨b,c⟩) h
  exact eV (CL.of b) (λw'=>CL.of) (λA w' G k'=>la n r _ A w' g (hdc.set d) G k'.1 k'.2) e
 |(i,0)::r,listed,a,w,hB,hdc,hw,b,h=>by
  simp only[segB,rx]at hB
  obtain⟨⟨⟨⟨f,g⟩,s⟩,B⟩,t⟩:=hB
  obtain⟨o,v,j,hy,c⟩:=h
  have d:i∈Region.ready md ops listed:=by simpa using f
  rw[yr,yz]
  have E:ordB.anc md ops l i=true:=by simpa using B
  refine ia (D:=C) j (mn s) (λH w' F m z=>?_) (Region.noSelect_spec n) (r.length+fuel) listed a w hdc (Region.free_spec j g) d hy hw (la n r _ _ w t (hdc.set d) hw.ne_set b c)
  cases l with
  |none=>exact z
  |some l=>
   rcases z with q|q
   .have u:=F.anc _ _ E q
    have x:=(mem_ready.1 m).1
    rcases yG i H.size with e|e
    .simp[e]at u x;rw[u]at x;cases x
    .simp[pf e]at u
   .exact q
 |(i,k+2)::r,listed,a,w,hB,hdc,hw,b,h=>by
  simp only[segB,rx]at hB
  obtain⟨⟨⟨⟨f,g⟩,s⟩,_⟩,t⟩:=hB
  obtain⟨o,v,j,hy,c⟩:=h
  have d:i∈Region.ready md ops listed:=by simpa using f
  rw[yr,yz]
  exact ia (D:=λ_=>True) j (mn s) (λ_ _ _ _ _=>trivial) (Region.noSelect_spec n) (r.length+fuel) listed a w hdc (Region.free_spec j g) d hy hw (la n r _ _ w t (hdc.set d) hw.ne_set b c)
theorem td {l:Option Nat}{fuel:Nat}{listed:Array Bool}{a:Act}{w:World}{is:List Nat}(f:Region.ready md ops listed=is) (e:is.isEmpty=false) (m:Dc md ops listed) (b:C w)
 (h:∀i,i∈is->(rOp P ops C i (λa w=>C w->Dc md ops (listed.setIfInBounds i true)->wAnyL P md ops l C N fuel (listed.setIfInBounds i true) a w) a w)):wAnyL P md ops l C N (fuel+1) listed a w:=by
 refine⟨λd=>?_,λk c=>?_⟩
 .rw[f]at d;rw[d]at e;cases e
 .have j:=h k (f ▸ c)
  have g:rOp P ops C k (λa w=>C w/\(C w->Dc md ops (listed.setIfInBounds k true)->wAnyL P md ops l C N fuel (listed.setIfInBounds k true) a w)) a w:=fS b (λ_ _ b c=>⟨b,c⟩) j
  exact eV (CL.of b) (λw'=>CL.of) (λn w' _ k'=>k'.2 k'.1 (m.set c)) g
theorem te {l:Option Nat}(f:Region.noSelect ops=true){b:List (Nat×Nat)}{listed:Array Bool}{a:Act}{w:World}(c:ordB.ord2 md ops l listed b=true) (e:Dc md ops listed) (d:C w)
 (h:Wlk P ops (λ_=>True) N b a w):wAnyL P md ops l C N b.length listed a w:=j5 f b listed a w c e (CL.of d) h
theorem kI {N':Act->World->Prop}(b:∀a w,N a w->N' a w):∀(r:List (Nat×Nat)) (a:Act) (w:World),Wlk P ops C N r a w->C w->Wlk P ops C N' r a w
 | [],_,_,h,_=>b _ _ h
 |(i,0)::r,a,w,⟨o,v,h1,h2,h3⟩,hC=>⟨o,v,h1,h2,kI b r _ _ h3 hC⟩
 |(i,1)::r,a,w,h,hC=>by
  have d:rOp P ops C i (Wlk P ops C N r) a w:=h
  exact fS hC (λc w' e f=>kI b r c w' f e) d
 |(i,k+2)::r,a,w,⟨o,v,h1,h2,h3⟩,hC=>⟨o,v,h1,h2,kI b r _ _ h3 hC⟩
def WO (P:Program) (n:Nat) (ops:Array Oper) (C:World->Prop) (N:Act->World->Prop) (b:List (Nat×Nat)) (L:Env) (w:World):Prop:=∀a,Kn n L a->Wlk P ops C N b a w
def gd (ops:Array Oper) (L:Env) (o:Oper):Option Bool:=
 match o.guard with
 |none=>some true
 |some (j,b)=>match (ops[j]?).bind (·.dst) with
  |some d=>match look L d with
   |some (.bool c)=>some (c==b)
   |some (.tuple _)=>some false
   |_=>none
  |none=>none
theorem gf {n:Nat}{L:Env}{o:Oper}{a:Act}{g:Bool}(ha:Kn n L a) (h:gd ops L o=some g):Region.wanted o (yielded ops a.tmps)=g:=by
 unfold gd at h
 unfold Region.wanted
 split at h
 .rename_i f;simp only[f];simpa using h
 .rename_i j b f
  simp only[f]
  split at h
  .rename_i d i
   have hy:yielded ops a.tmps j=match a.tmps[d]? with | some (.bool b)=>some b | _=>none:=by
    simp only[yielded,i,Option.bind_some]
    rfl
   rw[hy]
   split at h
   .rename_i c e
    rw[ha.2.2 d _ e]
    simp only[yJ]at h
    subst h
    cases c <;> cases b <;> rfl
   .rename_i c e
    rw[ha.2.2 d _ e]
    simp only[yJ]at h
    subst h
    rfl
   .cases h
  .cases h
theorem WO.q {n:Nat}{r:List (Nat×Nat)}{L:Env}{w:World}{i d:Nat}{o:Oper}(f:ops[i]? =some o) (e:gd ops L o=some true) (c:o.dst=some d) (b:yC d n=true){v:Value}
 (g:∀a w',Kn n L a->C w'->(execOp a.eval o).run P w'= .ok (.value v) w') (k:WO P n ops C N r ((d,v)::L) w):WO P n ops C N ((i,0)::r) L w:=
 λa ha=>⟨o,v,f,.inl ⟨gf ha e,λw' j=>g a w' ha j⟩,by rw[c];exact k _ (ha.put b v)⟩
theorem WO.qs {n:Nat}{r:List (Nat×Nat)}{L:Env}{w:World}{i d:Nat}{o:Oper}(f:ops[i]? =some o) (e:gd ops L o=some false) (c:o.dst=some d) (b:yC d n=true)
 (k:WO P n ops C N r ((d,undef)::L) w):WO P n ops C N ((i,0)::r) L w:=
 λa ha=>⟨o,undef,f,.inr ⟨gf ha e,rfl⟩,by rw[c];exact k _ (ha.put b undef)⟩
theorem WO.p {n:Nat}{r:List (Nat×Nat)}{L:Env}{w:World}{i d:Nat}{o:Oper}(f:ops[i]? =some o) (e:gd ops L o=some true) (c:o.dst=some d) (b:yC d n=true){v:Value}
 (g:∀a w',Kn n L a->(execOp a.eval o).run P w'= .ok (.value v) w') (k:WO P n ops C N r ((d,v)::L) w):WO P n ops C N ((i,2)::r) L w:=
 λa ha=>⟨o,v,f,.inl ⟨gf ha e,λw' _=>g a w' ha⟩,by rw[c];exact k _ (ha.put b v)⟩
theorem WO.ps {n:Nat}{r:List (Nat×Nat)}{L:Env}{w:World}{i d:Nat}{o:Oper}(f:ops[i]? =some o) (e:gd ops L o=some false) (c:o.dst=some d) (b:yC d n=true)
 (k:WO P n ops C N r ((d,undef)::L) w):WO P n ops C N ((i,2)::r) L w:=
 λa ha=>⟨o,undef,f,.inr ⟨gf ha e,rfl⟩,by rw[c];exact k _ (ha.put b undef)⟩
theorem WO.ls {n:Nat}{r:List (Nat×Nat)}{L:Env}{w:World}{i d:Nat}{o:Oper}(f:ops[i]? =some o) (e:gd ops L o=some false) (c:o.dst=some d) (b:yC d n=true)
 (k:WO P n ops C N r ((d,undef)::L) w):WO P n ops C N ((i,1)::r) L w:=
 λa ha=>by simp only[Wlk,rOp,f,gf ha e,r0,if_false,c];exact k _ (ha.put b undef)
theorem WO.l {n:Nat}{r:List (Nat×Nat)}{L:Env}{w:World}{i d:Nat}{o:Oper}(j:ops[i]? =some o) (f:gd ops L o=some true) (e:o.dst=some d) (b:yC d n=true)
 (k:∀a,Kn n L a->Runs P o a w (λv w'=>C w'/\WO P n ops C N r ((d,v)::L) w')):WO P n ops C N ((i,1)::r) L w:=
 λa ha=>by
  simp only[Wlk,rOp,j,gf ha f,if_true,e]
  exact(k a ha).mono λv w' ⟨c,g⟩=>⟨c,g _ (ha.put b v)⟩
theorem WO.ln {n:Nat}{r:List (Nat×Nat)}{L:Env}{w:World}{i:Nat}{o:Oper}(f:ops[i]? =some o) (d:gd ops L o=some true) (c:o.dst=none)
 (g:∀a,Kn n L a->Runs P o a w (λ_ w'=>C w'/\WO P n ops C N r L w')):WO P n ops C N ((i,1)::r) L w:=
 λa ha=>by
  simp only[Wlk,rOp,f,gf ha d,if_true,c]
  exact(g a ha).mono λv w' ⟨b,e⟩=>⟨b,e _ ha⟩
end
section
variable {P:Program}{n:Nat}{Q:Exit->Act->World->Prop}{L:Env}{w:World}
def WC (P:Program) (n:Nat) (c:Code) (Q:Exit->Act->World->Prop) (L:Env) (w:World):Prop:=∀a,Kn n L a->c.wp P Q a w
def DN (n:Nat) (Q:Exit->Act->World->Prop) (e:Exit) (L:Env) (w:World):Prop:=∀a,Kn n L a->Q e a w
theorem WC.reg {id:Nat}{ops:Array Oper}(C:World->Prop) (b:List (Nat×Nat)) (c:b.map (·.1)=List.range ops.size) (d:C w)
 (h:WO P n ops C (λa w=>Q .normal a w) b L w):WC P n (.region id ops false) Q L w:=λa ha=>pu b c d (h a ha)
theorem WC.regd {id:Nat}{ops:Array Oper}(C:World->Prop) (l:Option Nat) (b c:List (Nat×Nat)) (f:P.follows .mixedOrders=true) (d:ordOk ops l b c=true) (e:C { w with drawn:=w.drawn+1 })
 (h:WO P n ops C (λa w=>Wlk P ops (λ_=>True) (λa w=>Q .normal a w) c a w) b L { w with drawn:=w.drawn+1 }):WC P n (.region id ops true) Q L w:=λa ha=>pt l b c f d e (h a ha)
def WA (P:Program) (n:Nat) (ops:Array Oper) (l:Option Nat) (C:World->Prop) (N:Act->World->Prop) (listed:Array Bool) (fuel:Nat) (L:Env) (w:World):Prop:=∀a,Kn n L a->C w->Dc .any ops listed->wAnyL P .any ops l C N fuel listed a w
section
variable {ops:Array Oper}{l:Option Nat}{C:World->Prop}{N:Act->World->Prop}{listed:Array Bool}{fuel:Nat}
theorem WA.seg (o:List (Nat×Nat)){c:Nat}(j:Region.noSelect ops=true) (d:segB .any ops l o listed=true) (g:o.length+fuel=c)
 (h:WO P n ops C (λa w=>∃L,Kn n L a/\WA P n ops l C N (setAll o listed) fuel L w) o L w):WA P n ops l C N listed c L w:=λa ha b f=>by
 subst g
 refine la j o listed a w d f (CL.of b) b ?_
 exact kI (λa w ⟨L,i,k⟩ b e=>k a i b e) o a w (h a ha) b
theorem WO.wa {listed:Array Bool}{fuel:Nat}(h:WA P n ops l C N listed fuel L w):WO P n ops C (λa w=>∃L,Kn n L a/\WA P n ops l C N listed fuel L w) [] L w:=λa ha=>⟨L,ha,h⟩
theorem WA.fork (is:List Nat){c:Nat}(o:Region.ready .any ops listed=is) (m:is.isEmpty=false) (g:fuel+1=c)
 (h:∀i,i∈is->WO P n ops C (λa w=>∃L,Kn n L a/\WA P n ops l C N (listed.setIfInBounds i true) fuel L w) [(i,1)] L w):WA P n ops l C N listed c L w:=λa ha b f=>by
 subst g
 refine td o m f b λi j=>?_
 have d:rOp P ops C i (λa w=>∃L,Kn n L a/\WA P n ops l C N (listed.setIfInBounds i true) fuel L w) a w:=h i j a ha
 exact fS b (λa w _ ⟨L,k,p⟩ b e=>p a k b e) d
theorem WA.fork2 (i j:Nat){b:Nat}(g:Region.ready .any ops listed=[i,j]) (f:fuel+1=b)
 (d:WO P n ops C (λa w=>∃L,Kn n L a/\WA P n ops l C N (listed.setIfInBounds i true) fuel L w) [(i,1)] L w)
 (e:WO P n ops C (λa w=>∃L,Kn n L a/\WA P n ops l C N (listed.setIfInBounds j true) fuel L w) [(j,1)] L w):WA P n ops l C N listed b L w:=
 WA.fork [i,j] g rfl f λk c=>by
  simp only[yv,yx,or_false]at c
  rcases c with rfl|rfl
  .exact d
  .exact e
theorem WA.fork3 (i j m:Nat){b:Nat}(o:Region.ready .any ops listed=[i,j,m]) (g:fuel+1=b)
 (d:WO P n ops C (λa w=>∃L,Kn n L a/\WA P n ops l C N (listed.setIfInBounds i true) fuel L w) [(i,1)] L w)
 (e:WO P n ops C (λa w=>∃L,Kn n L a/\WA P n ops l C N (listed.setIfInBounds j true) fuel L w) [(j,1)] L w)
 (f:WO P n ops C (λa w=>∃L,Kn n L a/\WA P n ops l C N (listed.setIfInBounds m true) fuel L w) [(m,1)] L w):WA P n ops l C N listed b L w:=
 WA.fork [i,j,m] o rfl g λk c=>by
  simp only[yv,yx,or_false]at c
  rcases c with rfl|rfl|rfl
  .exact d
  .exact e
  .exact f
theorem jh {listed:Array Bool}{i l:Nat}(h:listed.getD l false=true):(listed.setIfInBounds i true).getD l false=true:=by
 by_cases b:i=l
 .subst b
  have c:i<listed.size:=by
   rcases yG i listed.size with a|a
   .exact a
   .simp[pf a]at h
  simp[c]
 .simp only[Array.getD_eq_getD_getElem?,pr b]at h ⊢
  exact h
theorem oO {md:Region.Mode}{C':World->Prop}{b:Nat}:∀(fuel:Nat) (listed:Array Bool) (a:Act) (w:World),listed.getD b false=true->wAnyL P md ops (some b) C N fuel listed a w->wAnyL P md ops (some b) C' N fuel listed a w
 |0,_,_,_,_,h=>h
 |fuel+1,listed,a,w,hl,h=>⟨h.1,λi d=>eV (.inl (jh hl)) (λw' _=> .inl (jh hl)) (λc w' _ k=>oO fuel _ c w' (jh hl) k) (h.2 i d)⟩
theorem WA.forkB (is:List Nat) (b:Nat){p:Nat}(t:Region.ready .any ops listed=is) (s:is.isEmpty=false) (x:fuel+1=p) (l:(listed.setIfInBounds b true).getD b false=true)
 (h:∀i,i∈is->i≠b->WO P n ops C (λa w=>∃L,Kn n L a/\WA P n ops (some b) C N (listed.setIfInBounds i true) fuel L w) [(i,1)] L w)
 (v:WO P n ops (λ_=>True) (λa w=>∃L,Kn n L a/\WA P n ops (some b) (λ_=>True) N (listed.setIfInBounds b true) fuel L w) [(b,1)] L w):WA P n ops (some b) C N listed p L w:=λa ha e r=>by
 subst x
 refine⟨λq=>?_,λk d=>?_⟩
 .rw[t]at q;rw[q]at s;cases s
 .by_cases o:k=b
  .subst o
   have g:rOp P ops (λ_=>True) k (λa w=>∃L,Kn n L a/\WA P n ops (some k) (λ_=>True) N (listed.setIfInBounds k true) fuel L w) a w:=v a ha
   exact eV (.inl l) (λ_ _=> .inl l) (λf w' _ ⟨L,j,m⟩=>oO _ _ _ _ l (m f j trivial (r.set d))) g
  .have g:rOp P ops C k (λa w=>∃L,Kn n L a/\WA P n ops (some b) C N (listed.setIfInBounds k true) fuel L w) a w:=h k (t ▸ d) o a ha
   have u:rOp P ops C k (λa w=>C w/\∃L,Kn n L a/\WA P n ops (some b) C N (listed.setIfInBounds k true) fuel L w) a w:=fS e (λ_ _ e d=>⟨e,d⟩) g
   exact eV (CL.of e) (λw'=>CL.of) (λf w' _ ⟨c,L,j,m⟩=>m f j c (r.set d)) u
theorem WA.forkB2r (i b:Nat){c:Nat}(l:Region.ready .any ops listed=[i,b]) (f:fuel+1=c) (g:(listed.setIfInBounds b true).getD b false=true)
 (h:WO P n ops C (λa w=>∃L,Kn n L a/\WA P n ops (some b) C N (listed.setIfInBounds i true) fuel L w) [(i,1)] L w)
 (e:WO P n ops (λ_=>True) (λa w=>∃L,Kn n L a/\WA P n ops (some b) (λ_=>True) N (listed.setIfInBounds b true) fuel L w) [(b,1)] L w):WA P n ops (some b) C N listed c L w:=
 WA.forkB [i,b] b l rfl f g (λk d j=>by
  simp only[yv,yx,or_false]at d
  rcases d with rfl|rfl
  .exact h
  .exact absurd rfl j) e
theorem WA.brk (b:Nat){c:Nat}(j:Region.ready .any ops listed=[b]) (e:fuel+1=c) (g:(listed.setIfInBounds b true).getD b false=true)
 (d:WO P n ops (λ_=>True) (λa w=>∃L,Kn n L a/\WA P n ops (some b) (λ_=>True) N (listed.setIfInBounds b true) fuel L w) [(b,1)] L w):WA P n ops (some b) C N listed c L w:=
 WA.forkB [b] b j rfl e g (λk f i=>absurd (yw.1 f) i) d
theorem WA.last (b:List (Nat×Nat)) (g:Region.noSelect ops=true) (c:ordB.ord2 .any ops l listed b=true) (f:b.length=fuel)
 (h:WO P n ops (λ_=>True) N b L w):WA P n ops l C N listed fuel L w:=λa ha d e=>by
 subst f
 exact te g c e d (h a ha)
end
theorem WC.regt {id:Nat}{ops:Array Oper}(C:World->Prop) (l:Option Nat) (e:P.follows .mixedOrders=true) (d:C { w with drawn:=w.drawn+1 })
 (h:WA P n ops l C (λa w=>Q .normal a w) (q0 ops.size false) ops.size L { w with drawn:=w.drawn+1 }):WC P n (.region id ops true) Q L w:=λa ha=>by
 refine wp_region_any e (dV (N:=λa w=>Q .normal a w) (l:=l) (C:=C) (λ_ _ h=>h) _ _ _ _ (h a ha d ?_))
 intro j o _ c
 exfalso
 rcases yG j ops.size with b|b
 .simp[b]at c
 .simp[pf,b]at c
theorem WC.seq {x y:Code}(h:WC P n x (Exit.then (y.wp P Q) Q) L w):WC P n (.seq x y) Q L w:=λa ha=>wp_seq (h a ha)
theorem WC.skip (h:DN n Q .normal L w):WC P n .skip Q L w:=λa ha=>wp_skip (h a ha)
theorem WC.exit {id:Nat}(h:DN n Q (.exit id) L w):WC P n (.exit id) Q L w:=λa ha=>wp_exit (h a ha)
theorem WC.ret (h:DN n Q .ret L w):WC P n .ret Q L w:=λa ha=>wp_ret (h a ha)
theorem WC.block {id:Nat}{c:Code}(h:WC P n c (Exit.inBlock id Q) L w):WC P n (.block id c) Q L w:=λa ha=>wp_block (h a ha)
theorem Jx {c:Operand}{x y:Code}(b:opd L c=some (.bool true)) (h:WC P n x Q L w):WC P n (.cond c x y) Q L w:=λa ha=>wp_cond_true (ha.eval b) (h a ha)
theorem Jy {c:Operand}{x y:Code}(b:opd L c=some (.bool false)) (h:WC P n y Q L w):WC P n (.cond c x y) Q L w:=λa ha=>wp_cond_false (ha.eval b) (h a ha)
theorem DN.seq {y:Code}(h:WC P n y Q L w):DN n (Exit.then (y.wp P Q) Q) .normal L w:=h
theorem Jt {K:Act->World->Prop}{id:Nat}(h:DN n Q (.exit id) L w):DN n (Exit.then K Q) (.exit id) L w:=h
theorem Jw {K:Act->World->Prop}(h:DN n Q .ret L w):DN n (Exit.then K Q) .ret L w:=h
theorem Ja1 {id:Nat}(h:DN n Q .ret L w):DN n (Exit.inBlock id Q) .ret L w:=h
theorem DN.block {id:Nat}(h:DN n Q .normal L w):DN n (Exit.inBlock id Q) .normal L w:=h
theorem DN.hit {id:Nat}(h:DN n Q .normal L w):DN n (Exit.inBlock id Q) (.exit id) L w:=λa ha=>by simp only[Exit.inBlock,if_true];exact h a ha
theorem Ja3 {id b:Nat}(c:yA b id=false) (h:DN n Q (.exit b) L w):DN n (Exit.inBlock id Q) (.exit b) L w:=λa ha=>by
 have:¬b=id:=λd=>by rw[d,Nat.beq_refl]at c;cases c
 simp only[Exit.inBlock,this,if_false];exact h a ha
theorem DN.to {N:Act->World->Prop}{ops:Array Oper}{C:World->Prop}(h:DN n Q .normal L w) (b:∀a w,Q .normal a w->N a w):WO P n ops C N [] L w:=λa ha=>b _ _ (h a ha)
theorem least (p:Nat->Prop) (h:∃k,p k):∃k,p k/\∀j,p j->k<=j:=by
 obtain⟨k,d⟩:=h
 induction k using Nat.strongRecOn with
 |_ k ih=>
  by_cases b:∃j,j<k/\p j
  .obtain⟨j,c,a⟩:=b;exact ih j c a
  .exact⟨k,d,λj a=>Nat.le_of_not_lt λe=>b ⟨j,e,a⟩⟩
theorem WC.loop {c:Code}(I:Nat->Env->World->Prop) (m:∃k L',I k L' w/\∀a,Kn n L a->Kn n L' a)
 (y:∀k L w,I k L w->WC P n c (Exit.then (λb w'=>∃k' L',k'<k/\I k' L' w'/\Kn n L' b) Q) L w):WC P n (.loop c) Q L w:=by
 intro a ha
 obtain⟨x,i,o,r⟩:=m
 classical
 let v:Act->World->Prop:=λa w=>∃k L,I k L w/\Kn n L a
 let z:Act->World->Nat:=λa w=>if h:∃k,∃L,I k L w/\Kn n L a then ym (least _ h) else 0
 refine wp_loop v z ⟨x,i,o,r a ha⟩ ?_
 intro a w q
 have f:∃k,∃L,I k L w/\Kn n L a:=q
 have u:=yn (least _ f)
 obtain⟨j,p,s⟩:=u.1
 refine wp_mono (y _ j w p a s) ?_
 intro l b w' h
 cases l <;> try exact h
 obtain⟨k',L',t,d,e⟩:=h
 refine⟨⟨k',L',d,e⟩,?_⟩
 have g:∃k,∃L,I k L w'/\Kn n L b:=⟨k',L',d,e⟩
 show(if h:∃k,∃L,I k L w'/\Kn n L b then ym (least _ h) else 0)<(if h:∃k,∃L,I k L w/\Kn n L a then ym (least _ h) else 0)
 rw[dif_pos g,dif_pos f]
 exact Nat.lt_of_le_of_lt ((yn (least _ g)).2 k' ⟨L',d,e⟩) t
end
def Rn (P:Program) (n:Nat) (C:World->Prop) (o:Oper) (L:Env) (v:Value):Prop:=∀a w,Kn n L a->C w->(execOp a.eval o).run P w= .ok (.value v) w
section
variable {P:Program}{n:Nat}{C:World->Prop}{o:Oper}{L:Env}
theorem WO.lq {ops:Array Oper}{N:Act->World->Prop}{r:List (Nat×Nat)}{w:World}{i d:Nat}(g:ops[i]? =some o) (f:gd ops L o=some true) (e:o.dst=some d) (c:yC d n=true){v:Value}
 (b:C w) (j:Rn P n (λx=>x=w) o L v) (k:WO P n ops C N r ((d,v)::L) w):WO P n ops C N ((i,1)::r) L w:=
 WO.l g f e c λa ha=>by unfold Runs;rw[j a w ha rfl];exact⟨b,k⟩
theorem wz {x:Operand}{v:Value}(b:o.op= .move x) (hx:opd L x=some v):Rn P n C o L v:=λa w ha _=>by simp[execOp,b,ha.eval hx]
theorem ue {x:Operand}{v:Value}(b:o.op= .assign x) (hx:opd L x=some v):Rn P n C o L v:=λa w ha _=>by simp[execOp,b,ha.eval hx]
theorem vd {c x y:Operand}{v:Value}(d:o.op= .pick c x y) (b:opd L c=some (.bool true)) (hx:opd L x=some v):Rn P n C o L v:=λa w ha _=>by
 simp[execOp,d,ha.eval hx,ha.eval b,asBool]
theorem vb {c x y:Operand}{v:Value}(d:o.op= .pick c x y) (b:opd L c=some (.bool false)) (hx:opd L y=some v):Rn P n C o L v:=λa w ha _=>by
 simp[execOp,d,ha.eval hx,ha.eval b,asBool]
theorem xN {x:Operand}{t:TypeId}{b:Bool}(c:o.op= .unOp .not t x) (hx:opd L x=some (.bool b)):Rn P n C o L (.bool (!b)):=λa w ha _=>by
 simp[execOp,c,ha.eval hx,Op.unary]
theorem uZ {x:Operand}{t:TypeId}{k:IntKind}{m:Int}(b:o.op= .unOp .neg t x) (hx:opd L x=some (.int k m)):Rn P n C o L (.int k (k.wrap (0-m))):=λa w ha _=>by
 simp[execOp,b,ha.eval hx,Op.unary,Op.intArith]
section ints
variable {x y:Operand}{t t':TypeId}{k:IntKind}{p q:Int}(hx:opd L x=some (.int k p)) (hy:opd L y=some (.int k q))
include hx hy
theorem xA (b:o.op= .binOp .add t x y t'):Rn P n C o L (.int k (k.wrap (p+q))):=λa w ha _=>by simp[execOp,b,ha.eval hx,ha.eval hy,eqGuard,binOp,Op.intArith]
theorem xP (b:o.op= .binOp .sub t x y t'):Rn P n C o L (.int k (k.wrap (p-q))):=λa w ha _=>by simp[execOp,b,ha.eval hx,ha.eval hy,eqGuard,binOp,Op.intArith]
theorem xL (b:o.op= .binOp .mul t x y t'):Rn P n C o L (.int k (k.wrap (p * q))):=λa w ha _=>by simp[execOp,b,ha.eval hx,ha.eval hy,eqGuard,binOp,Op.intArith]
theorem oD (c:o.op= .binOp .quo t x y t') (b:¬q=0):Rn P n C o L (.int k (k.wrap (p.tdiv q))):=λa w ha _=>by simp[execOp,c,ha.eval hx,ha.eval hy,eqGuard,binOp,Op.intDiv,b]
theorem c7 (c:o.op= .binOp .rem t x y t') (b:¬q=0):Rn P n C o L (.int k (p.tmod q)):=λa w ha _=>by simp[execOp,c,ha.eval hx,ha.eval hy,eqGuard,binOp,Op.intDiv,b]
theorem xB (b:o.op= .binOp .and t x y t'):Rn P n C o L (.int k (k.wrap (BitVec.ofInt k.bits p &&& BitVec.ofInt k.bits q).toNat)):=λa w ha _=>by simp[execOp,b,ha.eval hx,ha.eval hy,eqGuard,binOp,Op.intBits]
theorem ye (b:o.op= .binOp .or t x y t'):Rn P n C o L (.int k (k.wrap (BitVec.ofInt k.bits p ||| BitVec.ofInt k.bits q).toNat)):=λa w ha _=>by simp[execOp,b,ha.eval hx,ha.eval hy,eqGuard,binOp,Op.intBits]
theorem xQ (b:o.op= .binOp .xor t x y t'):Rn P n C o L (.int k (k.wrap (BitVec.ofInt k.bits p ^^^ BitVec.ofInt k.bits q).toNat)):=λa w ha _=>by simp[execOp,b,ha.eval hx,ha.eval hy,eqGuard,binOp,Op.intBits]
theorem xK (b:o.op= .binOp .lss t x y t'):Rn P n C o L (.bool (decide (p<q))):=λa w ha _=>by simp[execOp,b,ha.eval hx,ha.eval hy,eqGuard,binOp,Op.intCmp]
theorem xJ (b:o.op= .binOp .leq t x y t'):Rn P n C o L (.bool (decide (p<=q))):=λa w ha _=>by simp[execOp,b,ha.eval hx,ha.eval hy,eqGuard,binOp,Op.intCmp]
theorem xF (b:o.op= .binOp .gtr t x y t'):Rn P n C o L (.bool (decide (q<p))):=λa w ha _=>by simp[execOp,b,ha.eval hx,ha.eval hy,eqGuard,binOp,Op.intCmp]
theorem xE (b:o.op= .binOp .geq t x y t'):Rn P n C o L (.bool (decide (q<=p))):=λa w ha _=>by simp[execOp,b,ha.eval hx,ha.eval hy,eqGuard,binOp,Op.intCmp]
theorem xD (b:o.op= .binOp .eql t x y t'):Rn P n C o L (.bool (p==q)):=λa w ha _=>by simp[execOp,b,ha.eval hx,ha.eval hy,eqGuard,binOp,Op.intCmp]
theorem xM (b:o.op= .binOp .neq t x y t'):Rn P n C o L (.bool (p !=q)):=λa w ha _=>by simp[execOp,b,ha.eval hx,ha.eval hy,eqGuard,binOp,Op.intCmp]
end ints
section shifts
variable {x y:Operand}{t t':TypeId}{k k':IntKind}{p q:Int}(hx:opd L x=some (.int k p)) (hy:opd L y=some (.int k' q))
include hx hy
theorem xO (c:o.op= .binOp .shl t x y t') (b:¬q<0):Rn P n C o L (.int k (k.wrap (p * 2 ^ (min q.toNat k.bits)))):=λa w ha _=>by simp[execOp,c,ha.eval hx,ha.eval hy,eqGuard,binOp,Op.shift,b]
theorem vg (c:o.op= .binOp .shr t x y t') (b:¬q<0):Rn P n C o L (.int k (p.fdiv (2 ^ (min q.toNat k.bits)))):=λa w ha _=>by simp[execOp,c,ha.eval hx,ha.eval hy,eqGuard,binOp,Op.shift,b]
end shifts
theorem oE {t:TypeId}(ht:∀w,(underlying t).run P w= .ok .bool w) (p q:Bool) (w:World):(Op.equal t (.bool p) (.bool q)).run P w= .ok (p==q) w:=by
 unfold Op.equal
 obtain⟨d,a⟩:∃d,Op.maxDepth=d+1:=⟨9999,rfl⟩
 rw[a]
 simp only[Op.equalIn,Sem.run_bind,ht,Result.andThen_ok,Sem.run_pure]
section bools
variable {x y:Operand}{t t':TypeId}{p q:Bool}(hx:opd L x=some (.bool p)) (hy:opd L y=some (.bool q)) (ht:∀w,(underlying t).run P w= .ok .bool w)
include hx hy ht
theorem tI (b:o.op= .binOp .eql t x y t'):Rn P n C o L (.bool (p==q)):=λa w ha _=>by
 simp only[execOp,b,ha.eval hx,ha.eval hy,eqGuard,binOp,Sem.run_bind,Sem.run_pure,Result.andThen_ok,oE ht]
 simp
theorem nQ (b:o.op= .binOp .neq t x y t'):Rn P n C o L (.bool (p !=q)):=λa w ha _=>by
 simp only[execOp,b,ha.eval hx,ha.eval hy,eqGuard,binOp,Sem.run_bind,Sem.run_pure,Result.andThen_ok,oE ht]
 simp[bne]
end bools
theorem ww {x:Operand}{c b:TypeId}{k k':IntKind}{p:Int}{d:TypeDesc}(g:∀w,(underlying c).run P w= .ok d w) (e:∀w,(underlying b).run P w= .ok (.int k') w) (f:o.op= .convert c b x) (hx:opd L x=some (.int k p)):Rn P n C o L (.int k' (k'.wrap p)):=λa w ha _=>by
 simp[execOp,f,ha.eval hx,convert,g,e,Conv.intToInt]
def opds (L:Env):List Operand->Option (List Value)
 | []=>some []
 |x::r=>match opd L x,opds L r with
  |some v,some vs=>some (v::vs)
  |_,_=>none
theorem Kn.evals {a:Act}(h:Kn n L a):∀{l:List Operand}{vs:List Value},opds L l=some vs->l.toArray.map a.eval=vs.toArray:=by
 intro l
 induction l with
 |nil=>intro vs b;simp only[opds,yJ]at b;subst b;simp
 |cons x r f=>
  intro vs b
  simp only[opds]at b
  split at b
  .rename_i v g c d
   simp only[yJ]at b
   subst b
   have:=f d
   simp only[List.map_toArray,yt]at this ⊢
   have e:List.map a.eval r=g:=by simpa using this
   rw[e,h.eval c]
  .cases b
theorem xI {x:Operand}{t e:TypeId}{b:Option Addr}{l c:Nat}(ht:∀w,(underlying t).run P w= .ok (.slice e) w) (d:o.op= .call { callee:= .builtin .len,args:= #[x],argTypes:= #[t] })
 (hx:opd L x=some (.slice b l c)):Rn P n C o L (.int .i64 (l:Int)):=λa w ha _=>by
 simp[execOp,d,ha.eval hx,resolve,invoke,builtin,Builtin.len_,ht,goInt]
theorem jX {x:Operand}{t:TypeId}{s:ByteArray}(ht:∀w,(underlying t).run P w= .ok .string w) (b:o.op= .call { callee:= .builtin .len,args:= #[x],argTypes:= #[t] })
 (hx:opd L x=some (.string s)):Rn P n C o L (.int .i64 (s.size:Int)):=λa w ha _=>by
 simp[execOp,b,ha.eval hx,resolve,invoke,builtin,Builtin.len_,ht,goInt]
theorem sN {x:Operand}{i:Nat}{vs:Array Value}{v:Value}(b:o.op= .extract x i) (hx:opd L x=some (.tuple vs)) (c:vs[i]? =some v):Rn P n C o L v:=λa w ha _=>by
 simp[execOp,b,ha.eval hx,Instr.extract,c]
theorem qv {x y:Operand}{t t':TypeId}{k:IntKind}{p q:Int}(b:o.op= .call { callee:= .builtin .max,args:= #[x,y],argTypes:= #[t,t'] }) (hx:opd L x=some (.int k p)) (hy:opd L y=some (.int k q)):
 Rn P n C o L (.int k (if p<q then q else p)):=λa w ha _=>by
 simp[execOp,b,ha.eval hx,ha.eval hy,resolve,invoke,builtin,Builtin.max_,Builtin.max2]
theorem qu {x:Operand}{t:TypeId}{i:Nat}{p:Addr}{b:Array Field}{f:Field}{k:Nat}(ht:∀w,(underlying t).run P w= .ok (.struct b) w) (c:b[i]? =some f) (d:∀w,(sizeOf f.type).run P w= .ok (k+1) w)
 (e:o.op= .fieldAddr t x i) (hx:opd L x=some (.pointer (some p))):Rn P n C o L (.pointer (some (p.add f.offset))):=λa w ha _=>by
 simp[execOp,e,ha.eval hx,Instr.fieldAt,ht,c,Instr.sureAddr,fieldPlace,d]
theorem wy {x:Operand}{t:TypeId}{p:Addr}{v:Value}(ht:∀w,(isAgg t).run P w= .ok false w) (c:o.op= .load t x) (hx:opd L x=some (.pointer (some p))) (d:∀w,C w->w.cell? p=some v):Rn P n C o L v:=λa w ha b=>by
 simp[execOp,c,ha.eval hx,Instr.loadAt,Instr.sureAddr,loadVar,ht,d w b]
theorem sP {x:Operand}{t:TypeId}{p:Addr}{cs:List Value}(ht:∀w,(isAgg t).run P w= .ok true w){k:Nat}(c:∀w,(sizeOf t).run P w= .ok k w) (e:o.op= .load t x) (hx:opd L x=some (.pointer (some p)))
 (f:∀w,C w->∀j v,cs[j]? =some v->w.cell? (p.add j)=some v) (d:cs.length=k):Rn P n C o L (.agg cs.toArray):=λa w ha b=>by
 subst d
 simp[execOp,e,ha.eval hx,Instr.loadAt,Instr.sureAddr,loadVar,ht,c,run_loadCells_list w p cs (f w b)]
end
abbrev Col:=Nat->Nat
def nin:List Nat->Nat->Bool
 | [],_=>true
 |a::l,c=>bif yA a c then false else nin l c
theorem kP {l:List Nat}{c:Nat}:nin l c=false↔c∈l:=by
 induction l with
 |nil=>simp[nin]
 |cons a l d=>
  simp only[nin,yv]
  cases b:yA a c with
  |true=>have:=yD b;simp[this]
  |false=>
   have:¬c=a:=λh=>by rw[h,Nat.beq_refl]at b;cases b
   simp[this,d]
theorem cg {l:List Nat}{c:Nat}:nin l c=true↔c∉l:=by
 rw[← kP];cases nin l c <;> simp
def apt:List Nat->List Nat->Bool
 | [],_=>true
 |a::l,X=>bif nin X a then apt l X else false
theorem pT {l X:List Nat}(h:apt l X=true):∀c,c∈l->c∉X:=by
 induction l with
 |nil=>intro c b;cases b
 |cons a l e=>
  simp only[apt]at h
  cases d:nin X a with
  |false=>rw[d]at h;cases h
  |true=>
   rw[d]at h
   intro c b
   rcases yv.1 b with rfl|b
   .exact cg.1 d
   .exact e h c b
def Zl (J:Col) (w:World) (l:List Nat):Nat->Prop:=λb=>b<w.heap.size/\J b∈l
theorem Zl.mono {J:Col}{w:World}{l m:List Nat}(h:∀c,c∈l->c∈m){b:Nat}(a:Zl J w l b):Zl J w m b:=⟨a.1,h _ a.2⟩
structure Stp (X:List Nat) (J:Col) (w:World) (κ':Col) (w':World):Prop where
 os:w'.os=w.os
 tape:w'.tape=w.tape
 output:w'.output=w.output
 size:w.heap.size<=w'.heap.size
 keep:∀b,b<w.heap.size->J b∉X->κ' b=J b/\w'.heap[b]? =w.heap[b]?
theorem Stp.refl (J:Col) (w:World):Stp [] J w J w:=⟨rfl,rfl,rfl,yE _,λ_ _ _=>⟨rfl,rfl⟩⟩
theorem Stp.tr {X Y:List Nat}{J κ' g:Col}{w w' f:World}(h:Stp X J w κ' w') (k:Stp Y κ' w' g f):Stp (X++Y) J w g f:=
 ⟨k.os.trans h.os,k.tape.trans h.tape,k.output.trans h.output,Nat.le_trans h.size k.size,λb d e=>by
  obtain⟨c,i⟩:=h.keep b d (λa=>e (List.mem_append_left _ a))
  obtain⟨j,l⟩:=k.keep b (yF d h.size) (λa=>e (List.mem_append_right _ (c ▸ a)))
  exact⟨j.trans c,l.trans i⟩⟩
theorem Zl.st {X:List Nat}{J κ':Col}{w w':World}{l:List Nat}(s:Stp X J w κ' w') (h:∀c,c∈l->c∉X):∀b,Zl J w l b->Zl κ' w' l b/\w'.heap[b]? =w.heap[b]?:=λb ⟨a,d⟩=>by
 obtain⟨e,f⟩:=s.keep b a (h _ d)
 exact⟨⟨yF a s.size,e ▸ d⟩,f⟩
theorem nin2 {X:List Nat}{i:Nat}(b:nin X 0=true) (hi:nin X i=true):∀c,c∈[0,i]->c∉X:=λc a=>by
 simp only[yv,yx,or_false]at a
 rcases a with rfl|rfl
 .exact cg.1 b
 .exact cg.1 hi
theorem nin1 {X:List Nat}{i:Nat}(hi:nin X i=true):∀c,c∈[i]->c∉X:=λc a=>by
 simp only[yv,yx,or_false]at a
 subst a;exact cg.1 hi
theorem lS {α:Type}{p:Bool}{x y:α}(h:p=true):(bif p then x else y)=x:=by rw[h];rfl
theorem Stp.ext {J:Col}{w w':World}(i:Nat) (e:Ext w w'):Stp [] J w (λb=>bif yC b w.heap.size then J b else i) w':=
 ⟨e.os,e.tape,e.output,e.size,λb a _=>⟨lS (Nat.ble_eq.mpr a),e.block b a⟩⟩
theorem Stp.drew {J:Col}{w:World}:Stp [] J w J { w with drawn:=w.drawn+1 }:=⟨rfl,rfl,rfl,yE _,λ_ _ _=>⟨rfl,rfl⟩⟩
def sbs:List Nat->List Nat->Bool
 | [],_=>true
 |a::l,X=>bif nin X a then false else sbs l X
theorem qJ {X:List Nat}:∀{l:List Nat},sbs l X=true->∀c,c∈l->c∈X
 | [],_,_,h=>by cases h
 |a::l,h,c,d=>by
  simp only[sbs]at h
  cases b:nin X a with
  |true=>rw[b]at h;cases h
  |false=>
   rw[b]at h
   rcases yv.1 d with rfl|d
   .exact kP.1 b
   .exact qJ h c d
theorem Stp.wk {X Y:List Nat}{J κ':Col}{w w':World}(s:Stp Y J w κ' w') (h:sbs Y X=true):Stp X J w κ' w':=⟨s.os,s.tape,s.output,s.size,λb a c=>s.keep b a λd=>c (qJ h _ d)⟩
def ren:List (Nat×Nat)->Nat->Nat
 | [],c=>c
 |(a,b)::l,c=>bif yA a c then b else ren l c
def ks:List (Nat×Nat)->List Nat
 | []=>[]
 |(a,_)::l=>a::ks l
theorem tH {c:Nat}:∀{l:List (Nat×Nat)},c∉ks l->ren l c=c
 | [],_=>rfl
 |(a,b)::l,h=>by
  simp only[ks,yv,not_or]at h
  simp only[ren]
  cases d:yA a c with
  |true=>exact absurd (yD d).symm h.1
  |false=>exact tH h.2
theorem Stp.ren {X:List Nat}{J κ':Col}{w w':World}(s:Stp X J w κ' w') (l:List (Nat×Nat)) (h:sbs (ks l) X=true):Stp X J w (λb=>Wk.ren l (κ' b)) w':=⟨s.os,s.tape,s.output,s.size,λb e a=>by
 obtain⟨c,d⟩:=s.keep b e a
 refine⟨?_,d⟩
 show Wk.ren l (κ' b)=J b
 rw[c]
 exact tH λf=>a (qJ h _ f)⟩
structure Ent (J:Col) (w:World) (κ':Col) (w':World):Prop where
 os:w'.os=w.os
 tape:w'.tape=w.tape
 output:w'.output=w.output
 size:w.heap.size<=w'.heap.size
 keep:∀b,b<w.heap.size->J b<=1->κ' b=J b/\w'.heap[b]? =w.heap[b]?
theorem Ent.refl (J:Col) (w:World):Ent J w J w:=⟨rfl,rfl,rfl,yE _,λ_ _ _=>⟨rfl,rfl⟩⟩
theorem Ent.stp {X:List Nat}{J κ' e:Col}{w w' d:World}(h:Ent J w κ' w') (s:Stp X κ' w' e d) (f:nin X 0=true:=by exact rfl) (g:nin X 1=true:=by exact rfl):Ent J w e d:=
 ⟨s.os.trans h.os,s.tape.trans h.tape,s.output.trans h.output,Nat.le_trans h.size s.size,λb c n=>by
  obtain⟨i,j⟩:=h.keep b c n
  have k:κ' b∉X:=by
   have:κ' b=0\/κ' b=1:=by omega
   rcases this with a|a <;> rw[a]
   .exact cg.1 f
   .exact cg.1 g
  obtain⟨l,m⟩:=s.keep b (yF c h.size) k
  exact⟨l.trans i,m.trans j⟩⟩
theorem Ent.map {J κ':Col}{w w':World}(h:Ent J w κ' w') (g:Nat->Nat) (i:g 0=0) (j:g 1=1):Ent J w (λb=>g (κ' b)) w':=
 ⟨h.os,h.tape,h.output,h.size,λb e f=>by
  obtain⟨c,d⟩:=h.keep b e f
  refine⟨?_,d⟩
  show g (κ' b)=J b
  rw[c]
  have:J b=0\/J b=1:=by omega
  rcases this with a|a <;> rw[a] <;> assumption⟩
theorem Ent.toExt {κ':Col}{w w':World}(h:Ent (λ_=>0) w κ' w'):Ext w w':=⟨h.os,h.tape,h.output,h.size,λb a=>(h.keep b a (Nat.zero_le _)).2⟩
structure Rp (α:Type) where
 size:Nat
 rel:(Nat->Prop)->World->List Value->α->Prop
 st:∀{S S':Nat->Prop} {w w':World} {cs:List Value} {x:α},(∀b,S b->S' b/\w'.heap[b]? =w.heap[b]?)->rel S w cs x->rel S' w' cs x
 len:∀{S:Nat->Prop} {w:World} {cs:List Value} {x:α},rel S w cs x->cs.length=size
 one:∀{S:Nat->Prop} {w:World} {cs:List Value} {x:α},rel S w cs x->∀v∈cs,v.oneCell'=true
def Rp.int (k:IntKind):Rp Int where
 size:=1
 rel _ _ cs x:=cs=[.int k x]
 st _ h:=h
 len h:=by rw[h];rfl
 one h:=by rw[h];simp[Value.oneCell']
abbrev Rp.i64:Rp Int:=Rp.int .i64
def Rp.bool:Rp Bool where
 size:=1
 rel _ _ cs x:=cs=[.bool x]
 st _ h:=h
 len h:=by rw[h];rfl
 one h:=by rw[h];simp[Value.oneCell']
def Rp.str:Rp ByteArray where
 size:=1
 rel _ _ cs x:=cs=[.string x]
 st _ h:=h
 len h:=by rw[h];rfl
 one h:=by rw[h];simp[Value.oneCell']
def Rp.pair {α g:Type}(A:Rp α) (B:Rp g):Rp (α×g) where
 size:=A.size+B.size
 rel S w cs x:=∃a b,cs=a++b/\A.rel S w a x.1/\B.rel S w b x.2
 st h:=λ⟨a,b,c,d,e⟩=>⟨a,b,c,A.st h d,B.st h e⟩
 len:=λ⟨a,b,c,d,e⟩=>by rw[c,yq,A.len d,B.len e]
 one:=λ⟨a,b,c,d,e⟩ v f=>by
  rw[c]at f
  rcases yu.1 f with h|h
  .exact A.one d v h
  .exact B.one e v h
def Rp.iso {α a:Type}(A:Rp α) (f:a->α):Rp a where
 size:=A.size
 rel S w cs x:=A.rel S w cs (f x)
 st h:=A.st h
 len h:=A.len h
 one h:=A.one h
def idx {α:Type}(xs:List α) (i:Int):Option α:=if 0<=i then xs[i.toNat]? else none
theorem ko {α:Type}{xs:List α}{i:Int}{x:α}(h:idx xs i=some x):0<=i/\i<xs.length/\xs[i.toNat]? =some x:=by
 unfold idx at h
 split at h
 .rename_i a
  have:=(yo.1 h).1
  exact⟨a,by omega,h⟩
 .cases h
def Sl {α:Type}(E:Rp α) (S:Nat->Prop) (w:World) (a:Option Addr) (c:Nat) (xs:List α):Prop:=
 xs.length<=c/\c<=maxLen/\((xs=[]/\(a=none->c=0))\/∃b o,a=some ⟨b,o,none⟩/\S b /\
  ∀(i:Nat) x,xs[i]? =some x->∃cs:List Value,(∀(j:Nat) v,cs[j]? =some v->w.cell? ⟨b,o+i * E.size+j,none⟩=some v)/\E.rel S w cs x)
theorem Sl.st {α:Type}{E:Rp α}{S S':Nat->Prop}{w w':World}{a:Option Addr}{c:Nat}{xs:List α}(h:∀b,S b->S' b/\w'.heap[b]? =w.heap[b]?) (p:Sl E S w a c xs):Sl E S' w' a c xs:=by
 obtain⟨f,g,k⟩:=p
 refine⟨f,g,k.imp id λ⟨b,o,e,d,n⟩=>⟨b,o,e,(h b d).1,λi x hx=>?_⟩⟩
 obtain⟨cs,l,m⟩:=n i x hx
 exact⟨cs,λj v q=>by rw[World.cell?_of_block (w:=w) (h b d).2];exact l j v q,E.st h m⟩
theorem Sl.nil {α:Type}{E:Rp α}{S:Nat->Prop}{w:World}:Sl E S w none 0 []:=⟨by simp,by simp,.inl ⟨rfl,λ_=>rfl⟩⟩
theorem Sl.len_le {α:Type}{E:Rp α}{S:Nat->Prop}{w:World}{a:Option Addr}{c:Nat}{xs:List α}(h:Sl E S w a c xs):(xs.length:Int)<=9223372036854775807:=by
 have d:=h.1
 have b:=h.2.1
 unfold maxLen at b
 omega
def Rp.sl {α:Type}(E:Rp α):Rp (List α) where
 size:=1
 rel S w cs xs:=∃a c,cs=[.slice a xs.length c]/\Sl E S w a c xs
 st h:=λ⟨a,c,b,d⟩=>⟨a,c,b,d.st h⟩
 len:=λ⟨_,_,b,_⟩=>by rw[b];rfl
 one:=λ⟨_,_,b,_⟩=>by rw[b];simp[Value.oneCell']
def aAt (a:Option Addr) (k:Nat):Addr:=match a with
 |some p=>p.add k
 |none=>⟨0,0,none⟩
theorem addb (b o j:Nat):(⟨b,o,none⟩:Addr).add j=⟨b,o+j,none⟩:=by unfold Addr.add;split <;> simp_all
theorem Addr.add_add (b o j k:Nat):((⟨b,o,none⟩:Addr).add j).add k=⟨b,o+j+k,none⟩:=by rw[addb,addb]
theorem Sl.base {α:Type}{E:Rp α}{S:Nat->Prop}{w:World}{a:Option Addr}{c:Nat}{xs:List α}(g:Sl E S w a c xs){i:Int}{x:α}(h:idx xs i=some x):0<=i/\i<xs.length/\∃p,a=some p:=by
 obtain⟨f,e,j⟩:=ko h
 refine⟨f,e,?_⟩
 rcases g.2.2 with ⟨d,_⟩|⟨b,o,d,_⟩
 .subst d;simp at e;omega
 .exact⟨_,d⟩
theorem Sl.get {α:Type}{E:Rp α}{S:Nat->Prop}{w:World}{a:Option Addr}{c:Nat}{xs:List α}(n:Sl E S w a c xs){i:Int}{x:α}(h:idx xs i=some x):
 ∃cs:List Value,E.rel S w cs x/\∀w':World,(∀b,S b->w'.heap[b]? =w.heap[b]?)->∀(j:Nat) v,cs[j]? =some v->w'.cell? ((aAt a (i.toNat * E.size)).add j)=some v:=by
 obtain⟨r,e,f⟩:=ko h
 rcases n.2.2 with ⟨d,_⟩|⟨b,o,d,l,m⟩
 .subst d;simp at e;omega
 .obtain⟨cs,g,k⟩:=m _ _ f
  refine⟨cs,k,λw' q j v p=>?_⟩
  subst d
  simp only[aAt]
  rw[Addr.add_add,World.cell?_of_block (w:=w) (q b l)]
  exact g j v p
abbrev Rd {α:Type}(E:Rp α) (J:Col) (w:World) (i:Nat) (a:Option Addr) (c:Nat) (xs:List α):Prop:=Sl E (Zl J w [0,i]) w a c xs
theorem Sl.stp {α:Type}{E:Rp α}{X:List Nat}{J κ':Col}{w w':World}{i:Nat}{a:Option Addr}{c:Nat}{xs:List α}(h:Rd E J w i a c xs) (s:Stp X J w κ' w') (b:nin X 0=true:=by exact rfl) (d:nin X i=true:=by exact rfl):Rd E κ' w' i a c xs:=
 Sl.st (Zl.st s (nin2 b d)) h
theorem Zl.map {J:Col}{w:World}{l m:List Nat}(g:Nat->Nat) (h:∀c,c∈l->g c∈m):∀b,Zl J w l b->Zl (λb=>g (J b)) w m b/\w.heap[b]? =w.heap[b]?:=λb a=>⟨⟨a.1,h _ a.2⟩,rfl⟩
theorem Sl.z1 {α:Type}{E:Rp α}{J:Col}{w:World}{a:Option Addr}{c:Nat}{xs:List α}(h:Rd E J w 0 a c xs):Sl E (Zl J w [0]) w a c xs:=Sl.st (λb d=>⟨Zl.mono (by simp) d,rfl⟩) h
theorem Zl.sp {J:Col}{w:World}{l1 l2:List Nat}(h:apt l1 l2=true):∀b,Zl J w l1 b->Zl J w (l1++l2) b/\¬Zl J w l2 b:=λb a=>⟨Zl.mono (λc e=>List.mem_append_left _ e) a,λd=>pT h _ a.2 d.2⟩
theorem Zl.sr {J:Col}{w:World}{l1 l2:List Nat}:∀b,Zl J w l2 b->Zl J w (l1++l2) b:=λb a=>Zl.mono (λc d=>List.mem_append_right _ d) a
theorem map2 {g:Nat->Nat}{i j:Nat}(b:g 0=0) (hi:g i=j):∀c,c∈[0,i]->g c∈[0,j]:=λc a=>by
 simp only[yv,yx,or_false]at a ⊢
 rcases a with rfl|rfl
 .exact .inl b
 .exact .inr hi
theorem map1 {g:Nat->Nat}{i j:Nat}(hi:g i=j):∀c,c∈[i]->g c∈[j]:=λc a=>by
 simp only[yv,yx,or_false]at a ⊢
 subst a;exact hi
theorem Sl.map {α:Type}{E:Rp α}{J:Col}{w:World}{i j:Nat}{a:Option Addr}{c:Nat}{xs:List α}(h:Rd E J w i a c xs) (g:Nat->Nat) (d:g 0=0) (hi:g i=j):Rd E (λb=>g (J b)) w j a c xs:=
 Sl.st (Zl.map g (map2 d hi)) h
def Ag (l:List Nat) (J:Col) (w w':World):Prop:=∀b,Zl J w l b->w'.heap[b]? =w.heap[b]?
def Cl (N:List Nat) (J:Col) (w w':World):Prop:=∀b,b<w.heap.size->J b∈N->w'.heap[b]? =w.heap[b]?
def lle:List Nat->List Nat->Bool
 | [],_=>true
 |a::l,N=>bif nin N a then false else lle l N
theorem nL {N:List Nat}:∀{l:List Nat},lle l N=true->∀c,c∈l->c∈N
 | [],_,_,h=>by cases h
 |a::l,h,c,d=>by
  simp only[lle]at h
  cases b:nin N a with
  |true=>rw[b]at h;cases h
  |false=>
   rw[b]at h
   rcases yv.1 d with rfl|d
   .exact kP.1 b
   .exact nL h c d
def lgt:List Nat->List Nat->Bool
 | [],_=>true
 |a::l,N=>bif nin N a then lgt l N else false
theorem qc {N:List Nat}:∀{l:List Nat},lgt l N=true->∀c,c∈l->c∉N
 | [],_,_,h=>by cases h
 |a::l,h,c,d=>by
  simp only[lgt]at h
  cases b:nin N a with
  |false=>rw[b]at h;cases h
  |true=>
   rw[b]at h
   rcases yv.1 d with rfl|d
   .exact cg.1 b
   .exact qc h c d
theorem Cl.refl (N:List Nat) (J:Col) (w:World):Cl N J w w:=λ_ _ _=>rfl
theorem Stp.cl {X:List Nat}{J κ':Col}{w w':World}{N:List Nat}(s:Stp X J w κ' w') (h:lgt X N=true):Cl N J w w':=λb a c=>(s.keep b a λd=>qc h _ d c).2
structure Gst (q:Nat) (J:Col) (w:World) (κ':Col) (w':World):Prop where
 size:w.heap.size<=w'.heap.size
 mem:∀b,b<w.heap.size->w'.heap[b]? =w.heap[b]?
 col:∀b,b<w.heap.size->κ' b=J b\/κ' b=q
structure Ol (N:List Nat) (es:List Nat) (κ0:Col) (w0:World) (J:Col) (w:World):Prop where
 all:∀b,b<w0.heap.size->κ0 b∈N->b<w.heap.size/\(J b∈N\/J b∈es)/\w.heap[b]? =w0.heap[b]?
theorem Ol.refl (N:List Nat) (J:Col) (w:World):Ol N [] J w J w:=⟨λb a c=>⟨a,.inl c,rfl⟩⟩
theorem Ol.stp {N:List Nat}{c X:List Nat}{g J κ':Col}{f w w':World}(h:Ol N c g f J w) (s:Stp X J w κ' w') (l:lgt X N=true) (o:apt c X=true):Ol N c g f κ' w':=⟨λb m n=>by
 obtain⟨d,a,i⟩:=h.all b m n
 obtain⟨j,k⟩:=s.keep b d λe=>by
  rcases a with a|a
  .exact qc l _ e a
  .exact pT o _ a e
 exact⟨yF d s.size,j ▸ a,k.trans i⟩⟩
theorem Ol.cl {N:List Nat}{d:List Nat}{c J:Col}{a w:World}(h:Ol N d c a J w):Cl N c a w:=λb e f=>(h.all b e f).2.2
theorem hvC {l:List Nat}{J:Col}{w:World}{N:List Nat}{p:Addr}{v:Value}(h:∀w',Ag l J w w'->w'.cell? p=some v) (c:lle l N=true):∀w',Cl N J w w'->w'.cell? p=some v:=λw' d=>h w' λb a=>d b a.1 (nL c _ a.2)
theorem hvE {l:List Nat}{J:Col}{w:World}{p:Addr}{v:Value}(h:∀w',Ag l J w w'->w'.cell? p=some v):∀w',w'=w->w'.cell? p=some v:=λw' a=>h w' λb c=>by rw[a]
theorem haC {l:List Nat}{J:Col}{w:World}{N:List Nat}{p:Addr}{cs:List Value}(h:∀w',Ag l J w w'->∀(j:Nat) v,cs[j]? =some v->w'.cell? (p.add j)=some v) (c:lle l N=true):∀w',Cl N J w w'->∀(j:Nat) v,cs[j]? =some v->w'.cell? (p.add j)=some v:=λw' d=>h w' λb a=>d b a.1 (nL c _ a.2)
theorem haE {l:List Nat}{J:Col}{w:World}{p:Addr}{cs:List Value}(h:∀w',Ag l J w w'->∀(j:Nat) v,cs[j]? =some v->w'.cell? (p.add j)=some v):∀w',w'=w->∀(j:Nat) v,cs[j]? =some v->w'.cell? (p.add j)=some v:=λw' a=>h w' λb c=>by rw[a]
section
variable {J:Col}{w:World}{q:Nat}{a:Option Addr}{c:Nat}{i:Int}
theorem Sl.gInt {k:IntKind}{xs:List Int}{x:Int}(e:Rd (Rp.int k) J w q a c xs) (h:idx xs i=some x):∀w',Ag [0,q] J w w'->w'.cell? (aAt a (i.toNat * 1))=some (.int k x):=by
 obtain⟨cs,b,d⟩:=e.get h
 have b:cs=[.int k x]:=b
 subst b
 intro w' f
 exact d w' f 0 _ rfl
theorem Sl.gBool {xs:List Bool}{x:Bool}(e:Rd Rp.bool J w q a c xs) (h:idx xs i=some x):∀w',Ag [0,q] J w w'->w'.cell? (aAt a (i.toNat * 1))=some (.bool x):=by
 obtain⟨cs,b,d⟩:=e.get h
 have b:cs=[.bool x]:=b
 subst b
 intro w' f
 exact d w' f 0 _ rfl
theorem Sl.gStr {xs:List ByteArray}{x:ByteArray}(e:Rd Rp.str J w q a c xs) (h:idx xs i=some x):∀w',Ag [0,q] J w w'->w'.cell? (aAt a (i.toNat * 1))=some (.string x):=by
 obtain⟨cs,b,d⟩:=e.get h
 have b:cs=[.string x]:=b
 subst b
 intro w' f
 exact d w' f 0 _ rfl
theorem Sl.gSl {α:Type}{E:Rp α}{xs:List (List α)}{x:List α}(j:Rd (Rp.sl E) J w q a c xs) (h:idx xs i=some x):
 ∃b d,Rd E J w q b d x/\∀w',Ag [0,q] J w w'->w'.cell? (aAt a (i.toNat * 1))=some (.slice b x.length d):=by
 obtain⟨cs,⟨b,d,e,f⟩,g⟩:=j.get h
 subst e
 exact⟨b,d,f,λw' k=>g w' k 0 _ rfl⟩
theorem Sl.gSt {α:Type}{E:Rp α}{xs:List α}{x:α}(b:Rd E J w q a c xs) (h:idx xs i=some x):
 ∃cs:List Value,E.rel (Zl J w [0,q]) w cs x/\∀w',Ag [0,q] J w w'->∀(j:Nat) v,cs[j]? =some v->w'.cell? ((aAt a (i.toNat * E.size)).add j)=some v:=b.get h
end
structure Ep (α:Type) where
 size:Nat
 rel:(Nat->Prop)->(Nat->Prop)->World->List Value->α->Prop
 st:∀{F F' S S':Nat->Prop} {w w':World} {cs:List Value} {x:α},(∀b,F b->F' b/\w'.heap[b]? =w.heap[b]?)->(∀b,S b->S' b/\w'.heap[b]? =w.heap[b]?)->rel F S w cs x->rel F' S' w' cs x
 len:∀{F S:Nat->Prop} {w:World} {cs:List Value} {x:α},rel F S w cs x->cs.length=size
 one:∀{F S:Nat->Prop} {w:World} {cs:List Value} {x:α},rel F S w cs x->∀v∈cs,v.oneCell'=true
 rp:Rp α
 rps:rp.size=size
 rd:∀{F S G:Nat->Prop} {w:World} {cs:List Value} {x:α},(∀b,F b->G b)->(∀b,S b->G b)->rel F S w cs x->rp.rel G w cs x
def Ep.fz {α:Type}(E:Rp α):Ep α where
 size:=E.size
 rel F _ w cs x:=E.rel F w cs x
 st hF _ h:=E.st hF h
 len h:=E.len h
 one h:=E.one h
 rp:=E
 rps:=rfl
 rd hF _ h:=E.st (λb a=>⟨hF b a,rfl⟩) h
def Ep.int (k:IntKind):Ep Int:=Ep.fz (Rp.int k)
def Ep.bool:Ep Bool:=Ep.fz Rp.bool
def Ep.str:Ep ByteArray:=Ep.fz Rp.str
def Ep.pair {α n:Type}(A:Ep α) (B:Ep n):Ep (α×n) where
 size:=A.size+B.size
 rel F S w cs x:=∃c d,∃j i:Nat->Prop,cs=c++d/\(∀b,j b->S b/\¬i b)/\(∀b,i b->S b)/\A.rel F j w c x.1/\B.rel F i w d x.2
 st hF hS:=λ⟨c,d,j,i,e,k,l,f,g⟩=>⟨c,d,j,i,e,λb a=>⟨(hS b (k b a).1).1,(k b a).2⟩,λb a=>(hS b (l b a)).1,A.st hF (λb a=>⟨a,(hS b (k b a).1).2⟩) f,B.st hF (λb a=>⟨a,(hS b (l b a)).2⟩) g⟩
 len:=λ⟨c,d,_,_,e,_,_,f,g⟩=>by rw[e,yq,A.len f,B.len g]
 one:=λ⟨c,d,_,_,e,_,_,f,g⟩ v m=>by
  rw[e]at m
  rcases yu.1 m with h|h
  .exact A.one f v h
  .exact B.one g v h
 rp:=Rp.pair A.rp B.rp
 rps:=by show A.rp.size+B.rp.size=_;rw[A.rps,B.rps]
 rd hF hS:=λ⟨c,d,j,i,e,k,l,f,g⟩=>⟨c,d,e,A.rd hF (λb a=>hS b (k b a).1) f,B.rd hF (λb a=>hS b (l b a)) g⟩
def Ep.iso {α a:Type}(A:Ep α) (f:a->α):Ep a where
 size:=A.size
 rel F S w cs x:=A.rel F S w cs (f x)
 st hF hS h:=A.st hF hS h
 len h:=A.len h
 one h:=A.one h
 rp:=Rp.iso A.rp f
 rps:=A.rps
 rd hF hS h:=A.rd hF hS h
def nb (a:Option Addr):Nat:=match a with
 |some p=>p.block+1
 |none=>0
def OwR (w:World) (T:TypeId) (k:Nat) (a:Option Addr) (n c:Nat) (cells:List Value):Prop:=
 cells.length=n * k/\((a=none/\n=0/\c=0)\/∃d o b,a=some ⟨d,o,none⟩/\w.heap[d]? =some (.cells b T (0,0))/\n<=c/\c<=maxLen/\o+c * k<=b.size/\(b.toList.drop o).take (n * k)=cells)
theorem OwR.lt {w:World}{T:TypeId}{k:Nat}{a:Option Addr}{n c:Nat}{cells:List Value}(h:OwR w T k a n c cells){b:Nat}(d:b+1=nb a):b<w.heap.size:=by
 rcases h.2 with ⟨e,_⟩|⟨f,o,i,e,g,_⟩
 .rw[e]at d;cases d
 .rw[e]at d
  have:b=f:=by simpa [nb] using d
  rw[this]
  exact(pm.1 g).1
theorem OwR.same {w w':World}{T:TypeId}{k:Nat}{a:Option Addr}{n c:Nat}{cells:List Value}(h:OwR w T k a n c cells) (g:∀b,b+1=nb a->w'.heap[b]? =w.heap[b]?):OwR w' T k a n c cells:=by
 refine⟨h.1,h.2.imp id λ⟨e,o,f,d,i,r⟩=>⟨e,o,f,d,?_,r⟩⟩
 rw[g e (by rw[d];rfl)];exact i
def LstO {α:Type}(E:Ep α) (F:Nat->Prop) (w:World):(Nat->Prop)->List Value->List α->Prop
 |_,cells,[]=>cells=[]
 |S,cells,x::r=>∃d e,∃c a:Nat->Prop,cells=d++e/\(∀b,c b->S b/\¬a b)/\(∀b,a b->S b)/\E.rel F c w d x/\LstO E F w a e r
section
variable {α:Type}{E:Ep α}{F F':Nat->Prop}{w w':World}
theorem LstO.st (c:∀b,F b->F' b/\w'.heap[b]? =w.heap[b]?):∀{xs:List α}{S S':Nat->Prop}{cells:List Value},(∀b,S b->S' b/\w'.heap[b]? =w.heap[b]?)->LstO E F w S cells xs->LstO E F' w' S' cells xs
 | [],_,_,_,_,hl=>hl
 |_::_,S,S',_,hS,⟨c1,c2,S1,S2,e,s1,s2,h1,h2⟩=>⟨c1,c2,S1,S2,e,λb a=>⟨(hS b (s1 b a).1).1,(s1 b a).2⟩,λb a=>(hS b (s2 b a)).1,
  E.st c (λb a=>⟨a,(hS b (s1 b a).1).2⟩) h1,LstO.st c (λb a=>⟨a,(hS b (s2 b a)).2⟩) h2⟩
theorem LstO.len:∀{xs:List α}{S:Nat->Prop}{cells:List Value},LstO E F w S cells xs->cells.length=xs.length * E.size
 | [],_,_,hl=>by rw[hl];simp
 |x::r,_,_,⟨c1,c2,_,_,e,_,_,h1,h2⟩=>by rw[e,yq,E.len h1,h2.len,yr,yy,Nat.one_mul,Nat.add_comm]
theorem LstO.one:∀{xs:List α}{S:Nat->Prop}{cells:List Value},LstO E F w S cells xs->∀v∈cells,v.oneCell'=true
 | [],_,_,hl,v,hv=>by rw[hl]at hv;cases hv
 |x::r,_,_,⟨c1,c2,_,_,e,_,_,h1,h2⟩,v,hv=>by
  rw[e]at hv
  rcases yu.1 hv with h|h
  .exact E.one h1 v h
  .exact h2.one v h
theorem LstO.append {ys:List α}{Sy:Nat->Prop}{c:List Value}(f:LstO E F w Sy c ys):∀{xs:List α}{Sx S:Nat->Prop}{d:List Value},(∀b,Sx b->S b/\¬Sy b)->(∀b,Sy b->S b)->LstO E F w Sx d xs->LstO E F w S (d++c) (xs++ys)
 | [],_,_,_,hx,hy,hl=>by rw[hl];exact LstO.st (λb a=>⟨a,rfl⟩) (λb a=>⟨hy b a,rfl⟩) f
 |x::r,Sx,S,_,hx,hy,⟨d1,d2,S1,S2,e,s1,s2,h1,h3⟩=>⟨d1,d2++c,S1,λb=>S2 b\/Sy b,by rw[e,List.append_assoc],λb a=>⟨(hx b (s1 b a).1).1,λh=>h.elim (s1 b a).2 (hx b (s1 b a).1).2⟩,
  λb a=>a.elim (λh=>(hx b (s2 b h)).1) (hy b),h1,LstO.append f (λb a=>⟨.inl a,(hx b (s2 b a)).2⟩) (λb a=> .inr a) h3⟩
theorem LstO.get:∀{xs:List α}{S:Nat->Prop}{cells:List Value},LstO E F w S cells xs->∀(i:Nat) x,xs[i]? =some x->∃cs:List Value,(∀(j:Nat) v,cs[j]? =some v->cells[i * E.size+j]? =some v)/\E.rel F S w cs x
 | [],_,_,_,i,x,h=>by simp at h
 |y::r,S,_,⟨c1,c2,S1,S2,e,s1,s2,h1,h2⟩,0,x,h=>by
  simp only[List.getElem?_cons_zero,yJ]at h
  subst h
  refine⟨c1,λj v c=>?_,E.st (λb a=>⟨a,rfl⟩) (λb a=>⟨(s1 b a).1,rfl⟩) h1⟩
  rw[e,Nat.zero_mul,yH,List.getElem?_append_left (yo.1 c).1]
  exact c
 |y::r,S,_,⟨c1,c2,S1,S2,e,s1,s2,h1,h2⟩,i+1,x,h=>by
  obtain⟨cs,f,g⟩:=h2.get i x (by simpa using h)
  refine⟨cs,λj v c=>?_,E.st (λb a=>⟨a,rfl⟩) (λb a=>⟨s2 b a,rfl⟩) g⟩
  have d:=E.len h1
  rw[e,List.getElem?_append_right (by rw[d,yy];omega),d,show(i+1) * E.size+j-E.size=i * E.size+j from by rw[yy];omega]
  exact f j v c
theorem LstO.set {y:α}{cs:List Value}{Sy:Nat->Prop}(hy:E.rel F Sy w cs y):∀{xs:List α}{S S':Nat->Prop}{cells:List Value},(∀b,S b->S' b/\¬Sy b)->(∀b,Sy b->S' b)->LstO E F w S cells xs->∀(i:Nat),i<xs.length ->
 LstO E F w S' (cells.take (i * E.size)++cs++cells.drop (i * E.size+E.size)) (xs.set i y)
 | [],_,_,_,_,_,_,i,h=>by simp at h
 |x::r,S,S',_,hs,hsy,⟨c1,c2,S1,S2,e,s1,s2,h1,h2⟩,0,_=>by
  have c:=E.len h1
  refine⟨cs,c2,Sy,S2,?_,λb a=>⟨hsy b a,λh=>(hs b (s2 b h)).2 a⟩,λb a=>(hs b (s2 b a)).1,hy,h2⟩
  rw[e]
  simp[← c]
 |x::r,S,S',_,hs,hsy,⟨c1,c2,S1,S2,e,s1,s2,h1,h2⟩,i+1,h=>by
  have c:=E.len h1
  refine⟨c1,_,S1,λb=>S2 b\/Sy b,?_,λb a=>⟨(hs b (s1 b a).1).1,λh=>h.elim (s1 b a).2 (hs b (s1 b a).1).2⟩,λb a=>a.elim (λh=>(hs b (s2 b h)).1) (hsy b),h1,
   h2.set hy (S':=λb=>S2 b\/Sy b) (λb a=>⟨.inl a,(hs b (s2 b a)).2⟩) (λb a=> .inr a) i (by simpa using h)⟩
  rw[e,show(i+1) * E.size=c1.length+i * E.size from by rw[c,yy];omega,List.take_append,List.take_of_length_le (by omega),show c1.length+i * E.size-c1.length=i * E.size from by omega,
   show c1.length+i * E.size+E.size=c1.length+(i * E.size+E.size) from by omega,List.drop_append,List.drop_of_length_le (l:=c1) (by omega)]
  simp[List.append_assoc]
theorem LstO.drop:∀(n:Nat){xs:List α}{S:Nat->Prop}{cells:List Value},LstO E F w S cells xs->LstO E F w S (cells.drop (n * E.size)) (xs.drop n)
 |0,_,_,_,h=>by simpa using h
 |n+1,[],_,_,h=>by
  have h:_=[]:=h
  rw[h];simp;rfl
 |n+1,x::r,S,_,⟨c1,c2,S1,S2,e,s1,s2,h1,h2⟩=>by
  have c:=E.len h1
  rw[e,show(n+1) * E.size=c1.length+n * E.size from by rw[c,yy];omega,List.drop_append,List.drop_of_length_le (l:=c1) (by omega),List.nil_append,show c1.length+n * E.size-c1.length=n * E.size from by omega,List.drop_succ_cons]
  exact LstO.st (λb a=>⟨a,rfl⟩) (λb a=>⟨s2 b a,rfl⟩) (h2.drop n)
theorem LstO.take:∀(n:Nat){xs:List α}{S:Nat->Prop}{cells:List Value},LstO E F w S cells xs->LstO E F w S (cells.take (n * E.size)) (xs.take n)
 |0,_,_,_,h=>by simp[LstO]
 |n+1,[],_,_,h=>by
  have h:_=[]:=h
  rw[h];simp;rfl
 |n+1,x::r,S,_,⟨c1,c2,S1,S2,e,s1,s2,h1,h2⟩=>by
  have a:=E.len h1
  rw[e,show(n+1) * E.size=c1.length+n * E.size from by rw[a,yy];omega,List.take_append,List.take_of_length_le (l:=c1) (by omega),show c1.length+n * E.size-c1.length=n * E.size from by omega,List.take_succ_cons]
  exact⟨c1,_,S1,S2,rfl,s1,s2,h1,h2.take n⟩
theorem LstO.replicate {z:α}{a:List Value}{S:Nat->Prop}(b:E.rel F (λ_=>False) w a z):∀n,LstO E F w S (List.replicate n a).flatten (List.replicate n z)
 |0=>by simp[LstO]
 |n+1=>⟨a,_,λ_=>False,S,by simp[List.replicate_succ],λ_ h=>h.elim,λ_ h=>h,b,LstO.replicate b n⟩
end
def Ow {α:Type}(E:Ep α) (T:TypeId) (F S:Nat->Prop) (w:World) (a:Option Addr) (c:Nat) (xs:List α):Prop:=
 ∃d,OwR w T E.size a xs.length c d/\(∀b,b+1=nb a->S b)/\LstO E F w (λb=>S b/\b+1≠nb a) d xs
section
variable {α:Type}{E:Ep α}{T:TypeId}{F F' S S':Nat->Prop}{w w':World}{a:Option Addr}{c:Nat}{xs:List α}
theorem Ow.st (k:∀b,F b->F' b/\w'.heap[b]? =w.heap[b]?) (e:∀b,S b->S' b/\w'.heap[b]? =w.heap[b]?) (h:Ow E T F S w a c xs):Ow E T F' S' w' a c xs:=by
 obtain⟨g,i,f,j⟩:=h
 exact⟨g,i.same λb d=>(e b (f b d)).2,λb d=>(e b (f b d)).1,j.st k λb d=>⟨⟨(e b d.1).1,d.2⟩,(e b d.1).2⟩⟩
theorem Ow.nil:Ow E T F S w none 0 ([]:List α):=⟨[],⟨by simp,.inl ⟨rfl,rfl,rfl⟩⟩,λb a=>by simp[nb]at a,rfl⟩
theorem Ow.rd {G:Nat->Prop}(q:∀b,F b->G b) (f:∀b,S b->G b) (h:Ow E T F S w a c xs):Sl E.rp G w a c xs:=by
 obtain⟨B,k,l,m⟩:=h
 rcases k.2 with ⟨rfl,u,rfl⟩|⟨e,o,g,rfl,t,y,s,C,z⟩
 .exact⟨by omega,by simp,.inl ⟨List.eq_nil_of_length_eq_zero u,λ_=>rfl⟩⟩
 .refine⟨y,s,.inr ⟨e,o,rfl,f e (l e rfl),λi x hx=>?_⟩⟩
  obtain⟨cs,n,p⟩:=m.get i x hx
  refine⟨cs,λj v A=>?_,E.rd q (λb r=>f b r.1) p⟩
  have d:=n j v A
  rw[← z,yp]at d
  split at d
  .rw[cell_of_row w e _ g T (0,0) t,E.rps]
   rw[List.getElem?_drop]at d
   simpa [Nat.add_assoc] using d
  .cases d
end
def Ep.own {α:Type}(E:Ep α) (T:TypeId):Ep (List α) where
 size:=1
 rel F S w cs x:=∃a c,cs=[.slice a x.length c]/\Ow E T F S w a c x
 st hF hS:=λ⟨a,c,b,h⟩=>⟨a,c,b,h.st hF hS⟩
 len:=λ⟨_,_,b,_⟩=>by rw[b];rfl
 one:=λ⟨_,_,b,_⟩=>by rw[b];simp[Value.oneCell']
 rp:=Rp.sl E.rp
 rps:=rfl
 rd hF hS:=λ⟨a,c,b,h⟩=>⟨a,c,b,h.rd hF hS⟩
def Ep.Pu {α:Type}(E:Ep α):Prop:=∀{G F S:Nat->Prop}{w w':World}{cs:List Value}{x:α},E.rp.rel G w cs x->E.rel F S w' cs x
theorem bo (k:IntKind):(Ep.int k).Pu:=λh=>h
theorem tF:Ep.bool.Pu:=λh=>h
theorem sL:Ep.str.Pu:=λh=>h
def Ep.No {α:Type}(E:Ep α):Prop:=∀{F F' S:Nat->Prop}{w:World}{cs:List Value}{x:α},E.rel F S w cs x->E.rel F' S w cs x
theorem aT (k:IntKind):(Ep.int k).No:=λh=>h
theorem bU:Ep.bool.No:=λh=>h
theorem qe:Ep.str.No:=λh=>h
theorem nO {α m:Type}{A:Ep α}{B:Ep m}(i:A.No) (j:B.No):(Ep.pair A B).No:=λ⟨c,d,a,b,e,k,l,f,g⟩=>⟨c,d,a,b,e,k,l,i f,j g⟩
theorem uQ {α b:Type}{A:Ep α}(f:b->α) (a:A.No):(Ep.iso A f).No:=λh=>a h
theorem LstO.no {α:Type}{E:Ep α}(a:E.No){F F':Nat->Prop}{w:World}:∀{xs:List α}{S:Nat->Prop}{cells:List Value},LstO E F w S cells xs->LstO E F' w S cells xs
 | [],_,_,h=>h
 |_::_,_,_,⟨c1,c2,S1,S2,e,s1,s2,h1,h2⟩=>⟨c1,c2,S1,S2,e,s1,s2,a h1,h2.no a⟩
theorem Ow.no {α:Type}{E:Ep α}(g:E.No){T:TypeId}{F F' S:Nat->Prop}{w:World}{a:Option Addr}{c:Nat}{xs:List α}(h:Ow E T F S w a c xs):Ow E T F' S w a c xs:=by
 obtain⟨b,d,e,f⟩:=h
 exact⟨b,d,e,f.no g⟩
theorem ie {α:Type}{E:Ep α}(d:E.No) (T:TypeId):(Ep.own E T).No:=λ⟨a,c,b,h⟩=>⟨a,c,b,h.no d⟩
abbrev Oc {α:Type}(E:Ep α) (T:TypeId) (J:Col) (w:World) (i:Nat) (a:Option Addr) (c:Nat) (xs:List α):Prop:=Ow E T (Zl J w [0]) (Zl J w [i]) w a c xs
section
variable {α:Type}{E:Ep α}{T:TypeId}{X:List Nat}{J κ':Col}{w w':World}{i j:Nat}{a:Option Addr}{c:Nat}{xs:List α}
theorem Ow.stp (h:Oc E T J w i a c xs) (s:Stp X J w κ' w') (b:nin X 0=true:=by exact rfl) (d:nin X i=true:=by exact rfl):Oc E T κ' w' i a c xs:=h.st (Zl.st s (nin1 b)) (Zl.st s (nin1 d))
theorem Ow.rdc (h:Oc E T J w i a c xs):Rd E.rp J w i a c xs:=h.rd (λb d=>Zl.mono (by simp) d) (λb d=>Zl.mono (by simp) d)
theorem Ow.map (h:Oc E T J w i a c xs) (g:Nat->Nat) (d:g 0=0) (hi:g i=j):Oc E T (λb=>g (J b)) w j a c xs:=h.st (Zl.map g (map1 d)) (Zl.map g (map1 hi))
theorem Ow.len_le (h:Oc E T J w i a c xs):(xs.length:Int)<=9223372036854775807:=h.rdc.len_le
theorem Ow.gZ {k:Type}{E:Rp k}{xs:List (List k)}{x:List k}{l:Int}(h:Oc (Ep.fz (Rp.sl E)) T J w i a c xs) (hx:idx xs l=some x):
 ∃f g,Rd E J w 0 f g x/\∀w',Ag [0,i] J w w'->w'.cell? (aAt a (l.toNat * 1))=some (.slice f x.length g):=by
 have G:=h.rdc
 obtain⟨B,p,q,r⟩:=h
 obtain⟨I,K,A⟩:=ko hx
 obtain⟨cs,s,f,g,n,t⟩:=r.get _ _ A
 subst n
 refine⟨f,g,Sl.st (λb j=>⟨Zl.mono (by simp) j,rfl⟩) t,λw' z=>?_⟩
 rcases p.2 with ⟨_,D,_⟩|⟨d,o,m,rfl,v,F,C,H,y⟩
 .omega
 .have e:=s 0 _ rfl
  rw[← y,yp]at e
  split at e
  .have j:w'.heap[d]? =w.heap[d]?:=z d (Zl.mono (by simp) (q d rfl))
   show w'.cell? ((⟨d,o,none⟩:Addr).add _)=_
   rw[addb,cell_of_row w' d _ m T (0,0) (j.trans v)]
   rw[List.getElem?_drop]at e
   have u:(Ep.fz (Rp.sl E)).size=1:=rfl
   rw[u]at e
   simpa using e
  .cases e
end
def mp:List (Nat×Nat)->Nat->Nat->Nat
 | [],d,c=>bif yA c 0 then 0 else d
 |(a,b)::l,d,c=>bif yA a c then b else mp l d c
def vs2:List (Nat×Nat)->Bool
 | []=>true
 |(_,b)::l=>bif yB 2 b then vs2 l else false
theorem wN {d:Nat}(f:d<=1):∀(l:List (Nat×Nat)) (c:Nat),c∉ks l->mp l d c<=1
 | [],c,_=>by
  simp only[mp]
  cases yA c 0 <;> simp <;> omega
 |(a,b)::l,c,h=>by
  simp only[mp]
  simp only[ks,yv,not_or]at h
  cases e:yA a c with
  |true=>exact absurd (yD e).symm h.1
  |false=>exact wN f l c h.2
theorem qd:∀(l:List (Nat×Nat)) (c:Nat),vs2 l=true->mp l 1 c=0->c=0
 | [],c,_,h=>by
  simp only[mp]at h
  cases d:yA c 0 with
  |true=>exact yD d
  |false=>rw[d]at h;cases h
 |(a,b)::l,c,hv,h=>by
  simp only[mp]at h
  simp only[vs2]at hv
  cases e:yB 2 b with
  |false=>rw[e]at hv;cases hv
  |true=>
   rw[e]at hv
   cases d:yA a c with
   |true=>
    rw[d]at h
    have:=Nat.ble_eq.mp e
    simp only[cond_true]at h
    omega
   |false=>rw[d]at h;exact qd l c hv h
def mix (J:Col) (n:Nat) (m:Nat->Nat) (κ1:Col) (base:Nat):Col:=λb=>bif (yC b n&&yB (m (J b)) 1) then J b else bif yA (κ1 b) 0 then 0 else base+κ1 b
section
variable {J κ1:Col}{w w1:World}{base d:Nat}{l:List (Nat×Nat)}
theorem wd {m:Nat->Nat}{n b:Nat}(d:b<n) (e:m (J b)<=1):mix J n m κ1 base b=J b:=by
 have a:yC b n=true:=Nat.ble_eq.mpr d
 have c:yB (m (J b)) 1=true:=Nat.ble_eq.mpr e
 simp[mix,a,c]
theorem nM {m:Nat->Nat}{b:Nat}(e:Ent (λb=>m (J b)) w κ1 w1) (i:2<=κ1 b):mix J w.heap.size m κ1 base b=base+κ1 b:=by
 have c:(yC b w.heap.size&&yB (m (J b)) 1)=false:=by
  cases d:yC b w.heap.size with
  |false=>rfl
  |true=>
   cases a:yB (m (J b)) 1 with
   |false=>rfl
   |true=>
    have j:κ1 b=m (J b):=(e.keep b (Nat.ble_eq.mp d) (Nat.ble_eq.mp a)).1
    have k:=Nat.ble_eq.mp a
    omega
 have f:yA (κ1 b) 0=false:=by
  cases g:yA (κ1 b) 0 with
  |false=>rfl
  |true=>have:=yD g;omega
 simp[mix,c,f]
theorem Stp.mix (e:Ent (λb=>mp l d (J b)) w κ1 w1) (base:Nat) (g:yB d 1=true):Stp (ks l) J w (mix J w.heap.size (mp l d) κ1 base) w1:=
 ⟨e.os,e.tape,e.output,e.size,λb c f=>by
  have a:mp l d (J b)<=1:=wN (Nat.ble_eq.mp g) l _ f
  exact⟨wd c a,(e.keep b c a).2⟩⟩
theorem Ow.mix {α:Type}{E:Ep α}{T:TypeId}{k j:Nat}{a:Option Addr}{c:Nat}{xs:List α}(h:Oc E T κ1 w1 k a c xs) (i:E.No) (e:Ent (λb=>mp l d (J b)) w κ1 w1) (n:yB 2 k=true) (m:base+k=j):
 Oc E T (Wk.mix J w.heap.size (mp l d) κ1 base) w1 j a c xs:=
 (h.no i (F':=Zl (Wk.mix J w.heap.size (mp l d) κ1 base) w1 [0])).st (λb f=>⟨f,rfl⟩) λb f=>by
  have g:κ1 b=k:=by simpa [Zl] using f.2
  refine⟨⟨f.1,?_⟩,rfl⟩
  rw[nM e (by rw[g];exact Nat.ble_eq.mp n),g,m]
  simp
theorem Sl.mix0 {α:Type}{E:Rp α}{a:Option Addr}{c:Nat}{xs:List α}(h:Rd E κ1 w1 0 a c xs) (e:Ent (λb=>mp l 1 (J b)) w κ1 w1) (j:vs2 l=true):
 Rd E (Wk.mix J w.heap.size (mp l 1) κ1 base) w1 0 a c xs:=
 Sl.st (λb g=>by
  have f:κ1 b=0:=by simpa [Zl] using g.2
  refine⟨⟨g.1,?_⟩,rfl⟩
  have:Wk.mix J w.heap.size (mp l 1) κ1 base b=0:=by
   unfold Wk.mix
   cases d:(yC b w.heap.size&&yB (mp l 1 (J b)) 1) with
   |false=>simp[f]
   |true=>
    rw[rx]at d
    have i:κ1 b=mp l 1 (J b):=(e.keep b (Nat.ble_eq.mp d.1) (Nat.ble_eq.mp d.2)).1
    exact qd l _ j (i.symm.trans f)
  rw[this];simp) h
end
theorem m_z {c:Nat}(h:c=0):c∈[0]:=by simp[h]
theorem yj {c:Nat}(h:c=0):c∈[0,0]:=by simp[h]
theorem z_m {c:Nat}(h:c∈[0]):c=0:=by simpa using h
theorem yl {c:Nat}(h:c∈[0,0]):c=0:=by simpa using h
theorem Ji {J κ1:Col}{w w1:World}{d:Nat}{l:List (Nat×Nat)}(e:Ent (λb=>mp l d (J b)) w κ1 w1) (base:Nat) (a:yB d 1=true):
 ∃κ',Stp (ks l) J w κ' w1/\∀b,2<=κ1 b->κ' b=base+κ1 b:=⟨_,Stp.mix e base a,λ_ h=>nM e h⟩
theorem Jj {J κ1:Col}{w w1:World}{l:List (Nat×Nat)}(e:Ent (λb=>mp l 1 (J b)) w κ1 w1) (base:Nat) (f:vs2 l=true):
 ∃κ',Stp (ks l) J w κ' w1/\(∀b,2<=κ1 b->κ' b=base+κ1 b)/\∀b,b<w1.heap.size->κ1 b=0->κ' b=0:=⟨_,Stp.mix e base rfl,λ_ h=>nM e h,λb i h=>by
 have j:=(Sl.mix0 (E:=Rp.bool) (a:=some ⟨b,0,none⟩) (c:=0) (xs:=[]) (base:=base) ⟨by simp,by simp,.inl ⟨rfl,λh=>by cases h⟩⟩ e f)
 have d:Zl κ1 w1 [0,0] b:=⟨i,by simp[h]⟩
 unfold Wk.mix
 cases d:(yC b w.heap.size&&yB (mp l 1 (J b)) 1) with
 |false=>simp[h]
 |true=>
  rw[rx]at d
  have g:κ1 b=mp l 1 (J b):=(e.keep b (Nat.ble_eq.mp d.1) (Nat.ble_eq.mp d.2)).1
  exact qd l _ f (g.symm.trans h)⟩
section
variable {κ' κ1:Col}{w1:World}{base k j:Nat}
theorem Ow.mx {α:Type}{E:Ep α}{T:TypeId}{a:Option Addr}{c:Nat}{xs:List α}(h:Oc E T κ1 w1 k a c xs) (f:E.No) (l:∀b,2<=κ1 b->κ' b=base+κ1 b) (i:yB 2 k=true) (g:base+k=j):Oc E T κ' w1 j a c xs:=
 (h.no f (F':=Zl κ' w1 [0])).st (λb d=>⟨d,rfl⟩) λb d=>by
  have e:κ1 b=k:=by simpa [Zl] using d.2
  refine⟨⟨d.1,?_⟩,rfl⟩
  rw[l b (by rw[e];exact Nat.ble_eq.mp i),e,g]
  simp
theorem Ow.mxz {α:Type}{E:Ep α}{T:TypeId}{a:Option Addr}{c:Nat}{xs:List α}(h:Oc E T κ1 w1 k a c xs) (l:∀b,b<w1.heap.size->κ1 b=0->κ' b=0) (i:∀b,2<=κ1 b->κ' b=base+κ1 b) (g:yB 2 k=true) (f:base+k=j):Oc E T κ' w1 j a c xs:=
 h.st (λb d=>⟨⟨d.1,m_z (l b d.1 (z_m d.2))⟩,rfl⟩) λb d=>by
  have e:κ1 b=k:=by simpa [Zl] using d.2
  refine⟨⟨d.1,?_⟩,rfl⟩
  rw[i b (by rw[e];exact Nat.ble_eq.mp g),e,f]
  simp
theorem Sl.mx {α:Type}{E:Rp α}{a:Option Addr}{c:Nat}{xs:List α}(h:Rd E κ1 w1 0 a c xs) (e:∀b,b<w1.heap.size->κ1 b=0->κ' b=0):Rd E κ' w1 0 a c xs:=
 Sl.st (λb d=>⟨⟨d.1,yj (e b d.1 (yl d.2))⟩,rfl⟩) h
end
def fzc (J:Col) (i:Nat):Col:=λb=>bif yA (J b) i then 0 else J b
theorem xm {J:Col}{i b:Nat}(h:J b=i):fzc J i b=0:=by simp[fzc,h]
theorem Stp.fz (J:Col) (w:World) (i:Nat):Stp [i] J w (fzc J i) w:=⟨rfl,rfl,rfl,yE _,λb _ c=>⟨by
 have:yA (J b) i=false:=by
  cases a:yA (J b) i with
  |false=>rfl
  |true=>exact absurd (by simp[yD a]) c
 simp[fzc,this],rfl⟩⟩
theorem Zl.fz {J:Col}{w:World}{i:Nat}:∀b,Zl J w [0,i] b->Zl (fzc J i) w [0,0] b/\w.heap[b]? =w.heap[b]?:=λb a=>by
 refine⟨⟨a.1,?_⟩,rfl⟩
 have:J b=0\/J b=i:=by simpa [Zl] using a.2
 rcases this with h|h
 .have:fzc J i b=0:=by
   unfold fzc
   cases yA (J b) i <;> simp[h]
  simp[this]
 .simp[xm h]
theorem b9 (J:Col) (w:World) (i:Nat):∃κ',Stp [i] J w κ' w/\∀b,Zl J w [0,i] b->Zl κ' w [0,0] b/\w.heap[b]? =w.heap[b]?:=⟨_,Stp.fz J w i,λb a=>Zl.fz b a⟩
def Bx (w:World) (b:Nat) (T:TypeId) (cs:List Value):Prop:=w.heap[b]? =some (.cells cs.toArray T (0,0))
theorem Bx.lt {w:World}{b:Nat}{T:TypeId}{cs:List Value}(h:Bx w b T cs):b<w.heap.size:=(pm.1 h).1
theorem Bx.cell {w:World}{b:Nat}{T:TypeId}{cs:List Value}(h:Bx w b T cs){j:Nat}{v:Value}(c:cs[j]? =some v):w.cell? ((⟨b,0,none⟩:Addr).add j)=some v:=by
 have a:w.heap[b]? =some (.cells cs.toArray T (0,0)):=h
 rw[addb]
 simp[World.cell?,a,c]
structure Bc (J:Col) (w:World) (i:Nat) (b:Nat) (T:TypeId) (cs:List Value):Prop where
 bx:Bx w b T cs
 col:J b=i
section
variable {X:List Nat}{J κ' κ1:Col}{w w' w1:World}{i j b:Nat}{T:TypeId}{cs:List Value}
theorem Bc.stp (h:Bc J w i b T cs) (s:Stp X J w κ' w') (e:nin X 0=true:=by exact rfl) (d:nin X i=true:=by exact rfl):Bc κ' w' i b T cs:=by
 obtain⟨a,c⟩:=s.keep b h.bx.lt (by rw[h.col];exact cg.1 d)
 exact⟨c.trans h.bx,a.trans h.col⟩
theorem Bc.map (h:Bc J w i b T cs) (g:Nat->Nat) (a:g 0=0) (hi:g i=j):Bc (λb=>g (J b)) w j b T cs:=⟨h.bx,by show g (J b)=j;rw[h.col,hi]⟩
theorem Bc.mix {l:List (Nat×Nat)}{d base k:Nat}(h:Bc κ1 w1 k b T cs) (e:Ent (λb=>mp l d (J b)) w κ1 w1) (c:yB 2 k=true) (a:base+k=j):Bc (Wk.mix J w.heap.size (mp l d) κ1 base) w1 j b T cs:=
 ⟨h.bx,by rw[nM e (by rw[h.col];exact Nat.ble_eq.mp c),h.col,a]⟩
theorem Bc.mx {base k:Nat}(h:Bc κ1 w1 k b T cs) (d:∀b,2<=κ1 b->κ' b=base+κ1 b) (c:yB 2 k=true) (a:base+k=j):Bc κ' w1 j b T cs:=
 ⟨h.bx,by rw[d b (by rw[h.col];exact Nat.ble_eq.mp c),h.col,a]⟩
theorem Bc.cell (h:Bc J w i b T cs){v:Value}(j:Nat) (a:cs[j]? =some v):∀w',Ag [i] J w w'->w'.cell? ((⟨b,0,none⟩:Addr).add j)=some v:=λw' c=>
 (show Bx w' b T cs from(c b ⟨h.bx.lt,by rw[h.col];simp⟩).trans h.bx).cell a
theorem Bc.ld (h:Bc J w i b T cs){p:Addr}{v:Value}(off:Nat) (a:p=⟨b,off,none⟩) (c:cs[off]? =some v):∀w',Ag [i] J w w'->w'.cell? p=some v:=λw' d=>by
 have:=h.cell off c w' d
 rw[addb,yH]at this
 rw[a];exact this
theorem Bc.lds (h:Bc J w i b T cs){p:Addr}(off k:Nat) (d:p=⟨b,off,none⟩):∀w',Ag [i] J w w'->∀(j:Nat) v,((cs.drop off).take k)[j]? =some v->w'.cell? (p.add j)=some v:=λw' e j v a=>by
 have c:cs[off+j]? =some v:=by
  rw[yp]at a
  split at a
  .simpa using a
  .cases a
 rw[d,addb]
 exact h.ld (off+j) rfl c w' e
theorem Bc.cast {cs':List Value}(h:Bc J w i b T cs) (e:cs=cs'):Bc J w i b T cs':=e ▸ h
theorem Bc.cells (h:Bc J w i b T cs):∀w',Ag [i] J w w'->∀(j:Nat) v,cs[j]? =some v->w'.cell? ((⟨b,0,none⟩:Addr).add j)=some v:=λw' c j v a=>h.cell j a w' c
theorem Bc.part (h:Bc J w i b T cs) (off k:Nat):∀w',Ag [i] J w w'->∀(j:Nat) v,((cs.drop off).take k)[j]? =some v->w'.cell? (((⟨b,0,none⟩:Addr).add off).add j)=some v:=λw' d j v a=>by
 have c:cs[off+j]? =some v:=by
  rw[yp]at a
  split at a
  .simpa using a
  .cases a
 have:=h.cell (off+j) c w' d
 rw[Addr.add_add]
 rw[addb]at this
 rwa [Nat.add_assoc]
end
section
variable {P:Program}{n:Nat}{Q:Exit->Act->World->Prop}{L:Env}{w:World}{ops:Array Oper}{N:Act->World->Prop}{r:List (Nat×Nat)}{i d:Nat}{o:Oper}{v:Value}
theorem Jw2 {c:Operand}{x y:Code}{b:Bool}(d:opd L c=some (.bool b)) (a:b=true) (h:WC P n x Q L w):WC P n (.cond c x y) Q L w:=Jx (by rw[d,a]) h
theorem Jx2 {c:Operand}{x y:Code}{b:Bool}(d:opd L c=some (.bool b)) (a:b=false) (h:WC P n y Q L w):WC P n (.cond c x y) Q L w:=Jy (by rw[d,a]) h
theorem Jo {C:World->Prop}(h:DN n Q .normal L w):WO P n ops C (λa w=>Q .normal a w) [] L w:=h
theorem Jt1 {C:World->Prop}{b:List (Nat×Nat)}(h:WO P n ops (λ_=>True) N b L w):WO P n ops C (λa w=>Wlk P ops (λ_=>True) N b a w) [] L w:=h
theorem WC.rs {id:Nat}(b:List (Nat×Nat)) (c:b.map (·.1)=List.range ops.size)
 (h:WO P n ops (λ_=>True) (λa w=>Q .normal a w) b L w):WC P n (.region id ops false) Q L w:=WC.reg (λ_=>True) b c trivial h
theorem Js1 {id:Nat}{J:Col}(M:List Nat) (l:Option Nat) (b c:List (Nat×Nat)) (e:P.follows .mixedOrders=true) (d:ordOk ops l b c=true)
 (h:∀w1,Stp [] J w J w1->WO P n ops (Cl M J w1) (λa w=>Wlk P ops (λ_=>True) (λa w=>Q .normal a w) c a w) b L w1):WC P n (.region id ops true) Q L w:=
 WC.regd (Cl M J { w with drawn:=w.drawn+1 }) l b c e d (Cl.refl _ _ _) (h _ Stp.drew)
theorem WC.rxt {id:Nat}{J:Col}(M:List Nat) (l:Option Nat) (b:P.follows .mixedOrders=true)
 (h:∀w1,Stp [] J w J w1->WA P n ops l (Cl M J w1) (λa w=>Q .normal a w) (q0 ops.size false) ops.size L w1):WC P n (.region id ops true) Q L w:=
 WC.regt (Cl M J { w with drawn:=w.drawn+1 }) l b (Cl.refl _ _ _) (h _ Stp.drew)
theorem WO.k0 {C:World->Prop}(e:ops[i]? =some o) (c:gd ops L o=some true) (b:o.dst=some d) (a:yC d n=true)
 (f:Rn P n C o L v) (k:WO P n ops C N r ((d,v)::L) w):WO P n ops C N ((i,0)::r) L w:=WO.q e c b a f k
theorem WO.k1 {C:World->Prop}(a:C w) (f:ops[i]? =some o) (e:gd ops L o=some true) (c:o.dst=some d) (b:yC d n=true)
 (g:Rn P n (λx=>x=w) o L v) (k:WO P n ops C N r ((d,v)::L) w):WO P n ops C N ((i,1)::r) L w:=WO.lq f e c b a g k
theorem WO.k2 {C:World->Prop}(f:ops[i]? =some o) (e:gd ops L o=some true) (c:o.dst=some d) (b:yC d n=true)
 (g:Rn P n (λ_=>True) o L v) (k:WO P n ops C N r ((d,v)::L) w):WO P n ops C N ((i,2)::r) L w:=WO.p f e c b (λa w' ha=>g a w' ha trivial) k
end
def JQ (n:Nat) (I:Env->World->Prop) (Q:Exit->Act->World->Prop):Exit->Act->World->Prop
 |.normal,a,w=>∃L,I L w/\Kn n L a
 |e,a,w=>Q e a w
section
variable {P:Program}{n:Nat}{Q:Exit->Act->World->Prop}{L:Env}{w:World}
theorem WC.meet {x:Code}(I:Env->World->Prop) (h:WC P n x (JQ n I Q) L w) (k:∀L w,I L w->DN n Q .normal L w):WC P n x Q L w:=λa ha=>
 wp_mono (h a ha) λd c w' b=>by
  cases d <;> try exact b
  obtain⟨L',e,f⟩:=b
  exact k L' w' e c f
theorem DN.meet {I:Env->World->Prop}(L':Env) (h:I L' w) (b:∀a,Kn n L a->Kn n L' a):DN n (JQ n I Q) .normal L w:=λa ha=>⟨L',h,b a ha⟩
theorem Jr2 {I:Env->World->Prop}(h:DN n Q .ret L w):DN n (JQ n I Q) .ret L w:=h
end
theorem jP {P:Program}{ops:Array Oper}{C:World->Prop}{N:Act->World->Prop}{b:List (Nat×Nat)}:∀(c:List (Nat×Nat)) (a:Act) (w:World),Wlk P ops C (Wlk P ops C N b) c a w->C w->Wlk P ops C N (c++b) a w
 | [],_,_,h,_=>h
 |(i,0)::r,a,w,⟨o,v,h1,h2,h3⟩,hC=>⟨o,v,h1,h2,jP r _ _ h3 hC⟩
 |(i,1)::r,a,w,h,hC=>by
  have e:rOp P ops C i (Wlk P ops C (Wlk P ops C N b) r) a w:=h
  exact fS hC (λd w' f g=>jP r d w' g f) e
 |(i,k+2)::r,a,w,⟨o,v,h1,h2,h3⟩,hC=>⟨o,v,h1,h2,jP r _ _ h3 hC⟩
theorem lK {P:Program}{ops:Array Oper}{C:World->Prop}{N N':Act->World->Prop}(b:∀a w,N a w->N' a w):∀(r:List (Nat×Nat)) (a:Act) (w:World),Wlk P ops C N r a w->C w->Wlk P ops C N' r a w
 | [],_,_,h,_=>b _ _ h
 |(i,0)::r,a,w,⟨o,v,h1,h2,h3⟩,hC=>⟨o,v,h1,h2,lK b r _ _ h3 hC⟩
 |(i,1)::r,a,w,h,hC=>by
  have d:rOp P ops C i (Wlk P ops C N r) a w:=h
  exact fS hC (λc w' e f=>lK b r c w' f e) d
 |(i,k+2)::r,a,w,⟨o,v,h1,h2,h3⟩,hC=>⟨o,v,h1,h2,lK b r _ _ h3 hC⟩
theorem WO.meet {P:Program}{n:Nat}{ops:Array Oper}{C:World->Prop}{N:Act->World->Prop}{L:Env}{w:World}(b d:List (Nat×Nat)) (I:Env->World->Prop) (c:C w)
 (h:WO P n ops C (λa w=>∃L,(C w/\I L w)/\Kn n L a) b L w) (k:∀L w,C w->I L w->WO P n ops C N d L w):WO P n ops C N (b++d) L w:=λa ha=>
 jP b a w (lK (λe w' ⟨L',⟨f,g⟩,i⟩=>k L' w' f g e i) b a w (h a ha) c) c
theorem Jv1 {P:Program}{n:Nat}{ops:Array Oper}{C:World->Prop}{I:Env->World->Prop}{L:Env}{w:World}(L':Env) (b:C w) (c:I L' w) (d:∀a,Kn n L a->Kn n L' a):WO P n ops C (λa w=>∃L,(C w/\I L w)/\Kn n L a) [] L w:=λa ha=>⟨L',⟨b,c⟩,d a ha⟩
structure Gp (k:Nat) (L:Env) (v:Value):Prop
structure Kp (ks:List Nat) (L E:Env):Prop
theorem Gp.here {k:Nat}{L:Env}{v:Value}:Gp k ((k,v)::L) v:=⟨⟩
theorem Gp.next {k:Nat}{L:Env}{v:Value}{x:Nat×Value}(h:Gp k L v):Gp k (x::L) v:=⟨⟩
theorem Kp.nil {L:Env}:Kp [] L []:=⟨⟩
theorem Kp.cons {k:Nat}{ks:List Nat}{L E:Env}{v:Value}(a:Gp k L v) (b:Kp ks L E):Kp (k::ks) L ((k,v)::E):=⟨⟩
theorem WC.meetK {P:Program}{n:Nat}{Q:Exit->Act->World->Prop}{L E:Env}{w:World}{x:Code}(ks:List Nat) (I:Env->Env->World->Prop) (h:WC P n x (JQ n (I E) Q) L w) (k:∀L w,I E L w->DN n Q .normal L w)
 (a:Kp ks L E:=by repeat (first | exact Kp.nil | apply Kp.cons | exact Gp.here | apply Gp.next)):WC P n x Q L w:=WC.meet (I E) h k
theorem Ju3 {P:Program}{n:Nat}{Q:Exit->Act->World->Prop}{L E:Env}{w:World}{c:Code}(ks:List Nat) (I:Nat->Env->Env->World->Prop) (d:∃k L',I k E L' w/\∀a,Kn n L a->Kn n L' a)
 (e:∀k L w,I k E L w->WC P n c (Exit.then (λb w'=>∃k' L',k'<k/\I k' E L' w'/\Kn n L' b) Q) L w)
 (f:Kp ks L E:=by repeat (first | exact Kp.nil | apply Kp.cons | exact Gp.here | apply Gp.next)):WC P n (.loop c) Q L w:=WC.loop (λk L w=>I k E L w) d e
theorem WO.meetK {P:Program}{n:Nat}{ops:Array Oper}{C:World->Prop}{N:Act->World->Prop}{L E:Env}{w:World}(ks:List Nat) (I:Env->Env->World->Prop) (b c:List (Nat×Nat)) (d:C w)
 (h:WO P n ops C (λa w=>∃L,(C w/\I E L w)/\Kn n L a) b L w) (k:∀L w,C w->I E L w->WO P n ops C N c L w)
 (e:Kp ks L E:=by repeat (first | exact Kp.nil | apply Kp.cons | exact Gp.here | apply Gp.next)):WO P n ops C N (b++c) L w:=WO.meet b c (I E) d h k
def iop (a:BinOp) (k:IntKind) (p q:Int):Option Value:=match a with
 |.add=>some (.int k (k.wrap (p+q)))
 |.sub=>some (.int k (k.wrap (p-q)))
 |.mul=>some (.int k (k.wrap (p * q)))
 |.and=>some (.int k (k.wrap (BitVec.ofInt k.bits p &&& BitVec.ofInt k.bits q).toNat))
 |.or=>some (.int k (k.wrap (BitVec.ofInt k.bits p ||| BitVec.ofInt k.bits q).toNat))
 |.xor=>some (.int k (k.wrap (BitVec.ofInt k.bits p ^^^ BitVec.ofInt k.bits q).toNat))
 |.lss=>some (.bool (decide (p<q)))
 |.leq=>some (.bool (decide (p<=q)))
 |.gtr=>some (.bool (decide (q<p)))
 |.geq=>some (.bool (decide (q<=p)))
 |.eql=>some (.bool (p==q))
 |.neq=>some (.bool (p !=q))
 |_=>none
def pstep (L:Env) (o:Oper):Option Value:=match o.op with
 |.move x=>opd L x
 |.assign x=>opd L x
 |.pick c x y=>match opd L c with
  |some (.bool true)=>opd L x
  |some (.bool false)=>opd L y
  |_=>none
 |.unOp .not _ x=>match opd L x with
  |some (.bool b)=>some (.bool (!b))
  |_=>none
 |.binOp op _ x y _=>match opd L x with
  |some (.int k p)=>match opd L y with
   |some (.int k' q)=>match decide (k=k') with
    |true=>iop op k p q
    |false=>none
   |_=>none
  |_=>none
 |.extract x i=>match opd L x with
  |some (.tuple vs)=>vs[i]?
  |_=>none
 |_=>none
theorem xG {P:Program}{n:Nat}{C:World->Prop}{o:Oper}{L:Env}{b:BinOp}{t t':TypeId}{x y:Operand}{k:IntKind}{p q:Int}{v:Value}(a:o.op= .binOp b t x y t') (hx:opd L x=some (.int k p)) (hy:opd L y=some (.int k q)) (h:iop b k p q=some v):Rn P n C o L v:=by
 cases b <;> simp only[iop,yJ]at h <;> (try cases h)
 .exact xA hx hy a
 .exact xP hx hy a
 .exact xL hx hy a
 .exact xB hx hy a
 .exact ye hx hy a
 .exact xQ hx hy a
 .exact xD hx hy a
 .exact xM hx hy a
 .exact xK hx hy a
 .exact xJ hx hy a
 .exact xF hx hy a
 .exact xE hx hy a
theorem ve {P:Program}{n:Nat}{C:World->Prop}{o:Oper}{L:Env}{v:Value}(h:pstep L o=some v):Rn P n C o L v:=by
 unfold pstep at h
 split at h
 .rename_i x a;exact wz a h
 .rename_i x a;exact ue a h
 .rename_i c x y a
  split at h
  .rename_i d;exact vd a d h
  .rename_i d;exact vb a d h
  .cases h
 .rename_i t x a
  split at h
  .rename_i b hx
   cases h
   exact xN a hx
  .cases h
 .rename_i f t x y t' a
  split at h
  .rename_i k p hx
   split at h
   .rename_i k' q hy
    split at h
    .rename_i e
     have:=of_decide_eq_true e
     subst this
     exact xG a hx hy h
    .cases h
   .cases h
  .cases h
 .rename_i x i a
  split at h
  .rename_i vs hx;exact sN a hx h
  .cases h
 .cases h
def pn (ops:Array Oper) (n:Nat):Nat->List (Nat×Nat)->Env->Option (List (Nat×Nat)×Env)
 |0,r,L=>some (r,L)
 |m+1,(i,2)::r,L=>match ops[i]? with
  |some o=>match gd ops L o with
   |some true=>match o.dst with
    |some d=>match yC d n with
     |true=>match pstep L o with
      |some v=>pn ops n m r ((d,v)::L)
      |none=>none
     |false=>none
    |none=>none
   |some false=>match o.dst with
    |some d=>match yC d n with
     |true=>pn ops n m r ((d,undef)::L)
     |false=>none
    |none=>none
   |none=>none
  |none=>none
 |_+1,_,_=>none
theorem WO.pn {P:Program}{n:Nat}{ops:Array Oper}{C:World->Prop}{N:Act->World->Prop}{w:World}:∀(m:Nat){r r':List (Nat×Nat)}{L L':Env},Wk.pn ops n m r L=some (r',L')->WO P n ops C N r' L' w->WO P n ops C N r L w
 |0,r,r',L,L',h,k=>by
  simp only[Wk.pn,yJ,Prod.mk.injEq]at h
  obtain⟨rfl,rfl⟩:=h
  exact k
 |m+1,r,r',L,L',h,k=>by
  unfold Wk.pn at h
  split at h
  .omega
  .rename_i g
   cases g
   split at h
   .rename_i o f
    split at h
    .rename_i e
     split at h
     .rename_i d c
      split at h
      .rename_i b
       split at h
       .rename_i v i
        exact WO.p f e c b (λa w' ha=>ve (C:=λ_=>True) i a w' ha trivial) (WO.pn m h k)
       .cases h
      .cases h
     .cases h
    .rename_i e
     split at h
     .rename_i d c
      split at h
      .rename_i b;exact WO.ps f e c b (WO.pn m h k)
      .cases h
     .cases h
    .cases h
   .cases h
  .cases h
section
variable {P:Program}{n:Nat}{C:World->Prop}{o:Oper}{L:Env}
theorem wQ {x:Operand}{t:TypeId}{p:Addr}{v:Value}(ht:∀w,(isAgg t).run P w= .ok false w) (a:o.op= .load t x) (hx:opd L x=some (.pointer (some p))) (b:∀w,C w->w.cell? p=some v):Rn P n C o L v:=wy ht a hx b
theorem yd {x:Operand}{t:TypeId}{p:Addr}{cs:List Value}(ht:∀w,(isAgg t).run P w= .ok true w){k:Nat}(a:∀w,(sizeOf t).run P w= .ok k w) (c:o.op= .load t x) (hx:opd L x=some (.pointer (some p)))
 (b:cs.length=k) (d:∀w,C w->∀(j:Nat) v,cs[j]? =some v->w.cell? (p.add j)=some v):Rn P n C o L (.agg cs.toArray):=sP ht a c hx d b
theorem rL {α:Type}{E:Rp α}{S:Nat->Prop}{w:World}{x d:Operand}{t e:TypeId}{a:Option Addr}{c l f:Nat}{k:IntKind}{i:Int}{xs:List α}{y:α}(r:Sl E S w a c xs) (h:idx xs i=some y)
 (ht:∀w,(underlying t).run P w= .ok (.slice e) w) (s:∀w,(sizeOf e).run P w= .ok f w) (q:o.op= .indexAddr t x d)
 (hx:opd L x=some (.slice a l c)) (m:l=xs.length) (hi:opd L d=some (.int k i)):Rn P n C o L (.pointer (some (aAt a (i.toNat * f)))):=λb w' ha _=>by
 obtain⟨g,j,p,rfl⟩:=r.base h
 subst m
 simp[execOp,q,ha.eval hx,ha.eval hi,Instr.indexAt,asIntOf,ht,s,g,j,aAt]
theorem bh {x:Operand}{p:Addr}(b:o.op= .nilCheck x) (hx:opd L x=some (.pointer (some p))):Rn P n C o L (.pointer (some p)):=λa w ha _=>by
 simp[execOp,b,ha.eval hx]
theorem uf {x c:Operand}{t e:TypeId}{p:Addr}{len d:Nat}{k:IntKind}{i:Int}(ht:∀w,(underlying t).run P w= .ok (.array len e) w) (g:∀w,(sizeOf e).run P w= .ok d w) (f:o.op= .indexAddr t x c)
 (hx:opd L x=some (.pointer (some p))) (hi:opd L c=some (.int k i)) (a:(decide (0<=i)&&decide (i<len))=true):Rn P n C o L (.pointer (some (p.add (i.toNat * d)))):=λb w' ha _=>by
 simp only[rx,decide_eq_true_eq]at a
 simp[execOp,f,ha.eval hx,ha.eval hi,Instr.indexAt,Instr.sureAddr,asIntOf,ht,g,a.1,a.2]
theorem uY {t:TypeId}{parts:List (Nat×Operand)}{vs cells:List Value}(d:o.op= .build t parts.toArray) (e:opds L (parts.map (·.2))=some vs) (c:P.built t (List.zip (parts.map (·.1)) vs)=some cells.toArray):Rn P n C o L (.agg cells.toArray):=λa w ha _=>by
 have g:(parts.toArray.map λ(i,x)=>(i,a.eval x)).toList=List.zip (parts.map (·.1)) vs:=by
  have b:(parts.map (·.2)).map a.eval=vs:=by simpa using ha.evals e
  rw[← b]
  clear d e c b
  induction parts with
  |nil=>simp
  |cons p r j=>simpa using j
 have f:=run_build (P:=P) w t (parts.toArray.map λ(i,x)=>(i,a.eval x)) cells.toArray (by rw[g];exact c)
 simp only[execOp,d,Sem.run_bind,f,Result.andThen_ok,Sem.run_pure]
end
section
variable {P:Program}{n:Nat}{ops:Array Oper}{C:World->Prop}{N:Act->World->Prop}{r:List (Nat×Nat)}{L:Env}{w:World}{i d:Nat}{o:Oper}
def Ret (P:Program) (f:FuncId) (a:List Value) (w:World) (R:Value->World->Prop):Prop:=Calls P f a.toArray w (λb w'=>∃v,b= .returned v/\R v w')
theorem Ret.mono {f:FuncId}{a:List Value}{R R':Value->World->Prop}(h:Ret P f a w R) (c:∀v w',R v w'->R' v w'):Ret P f a w R':=
 Calls.mono h λ_ _ ⟨v,b,k⟩=>⟨v,b,c _ _ k⟩
theorem Ret.cast {f:FuncId}{a b:List Value}{R:Value->World->Prop}(e:a=b) (h:Ret P f b w R):Ret P f a w R:=e ▸ h
theorem WO.call (l:ops[i]? =some o) (j:gd ops L o=some true) (g:o.dst=some d) (c:yC d n=true){f:FuncId}{xs:List Operand}{s:Array TypeId}{vs:List Value}
 (m:o.op= .call { callee:= .value (.func f),args:=xs.toArray,argTypes:=s }) (q:opds L xs=some vs) (e:∀(as:Array Value) (w:World),(callFunc f as).run P w= .ok (.enter f as) w)
 {R:Value->World->Prop} (h:Ret P f vs w R) (k:∀v w',R v w'->C w'/\WO P n ops C N r ((d,v)::L) w'):WO P n ops C N ((i,1)::r) L w:=
 WO.l l j g c λa ha=>by
  have b:xs.toArray.map a.eval=vs.toArray:=ha.evals q
  unfold Runs
  have:(execOp a.eval o).run P w= .ok (.enter f vs.toArray) w:=by
   simp only[execOp,m,resolve,b,Act.eval,Deferred.ofValue,Sem.run_bind,Sem.run_pure,Result.andThen_ok,invoke]
   simpa using e _ w
  rw[this]
  exact h.mono λ_ _ p=>k _ _ p
theorem WO.callV (q:ops[i]? =some o) (p:gd ops L o=some true) (m:o.dst=some d) (j:yC d n=true){f:FuncId}{x:Operand}{b:Array Value}{xs:List Operand}{z:Array TypeId}{vs c:List Value}
 (s:o.op= .call { callee:= .value x,args:=xs.toArray,argTypes:=z }) (hx:opd L x=some (.func (.func f) #[] b)) (u:opds L xs=some vs) (y:vs++b.toList=c) (l:∀(as:Array Value) (w:World),(callFunc f as).run P w= .ok (.enter f as) w)
 {R:Value->World->Prop} (h:Ret P f c w R) (k:∀v w',R v w'->C w'/\WO P n ops C N r ((d,v)::L) w'):WO P n ops C N ((i,1)::r) L w:=
 WO.l q p m j λa ha=>by
  have g:xs.toArray.map a.eval=vs.toArray:=ha.evals u
  subst y
  unfold Runs
  have:(execOp a.eval o).run P w= .ok (.enter f (vs++b.toList).toArray) w:=by
   have e:(vs++b.toList).toArray=vs.toArray++b:=by simp
   simp only[execOp,s,resolve,g,ha.eval hx,Deferred.ofValue,Sem.run_bind,Sem.run_pure,Result.andThen_ok,invoke,e]
   simpa using l _ w
  rw[this]
  exact h.mono λ_ _ t=>k _ _ t
end
def qZ (k:Nat):List Value->Env
 | []=>[]
 |v::r=>(k,v)::qZ (k+1) r
theorem ox:∀(vs:List Value) (k t:Nat) (v:Value),look (qZ k vs) t=some v->k<=t/\vs[t-k]? =some v
 | [],_,_,_,h=>by cases h
 |u::r,k,t,v,h=>by
  simp only[qZ,look]at h
  by_cases a:yA k t=true
  .have:k=t:=yD a
   subst this
   simp only[a,cond_true,yJ]at h
   simp[h]
  .simp only[Bool.not_eq_true]at a
   simp only[a,cond_false]at h
   obtain⟨c,b⟩:=ox r (k+1) t v h
   refine⟨by omega,?_⟩
   rw[show t-k=(t-(k+1))+1 from by omega]
   simpa using b
theorem Ret.enter {P:Program}{f:FuncId}{fn:Func}{c:Code}{n:Nat}{a:List Value}{w:World}{R:Value->World->Prop}(g:P.funcs[f]? =some fn) (e:fn.body=some c) (k:fn.ntmps=n) (i:yB a.length n=true)
 (h:WC P n c (bodyPost P fn (λd w'=>∃v,d= .returned v/\R v w')) (qZ 0 a) w):Ret P f a w R:=by
 have l:a.length<=n:=Nat.ble_eq.mp i
 refine calls_of_wp g e (h _ ⟨rfl,?_,?_⟩)
 .simp[k];omega
 .intro t v ht
  obtain⟨_,b⟩:=ox a 0 t v ht
  have b:a[t]? =some v:=by simpa using b
  have j:t<a.length:=(yo.1 b).1
  rw[Array.getElem?_append_left (by simpa using j)]
  simpa using b
def Res (P:Program) (L:Env) (w:World):List ResultVar->List Value->Prop
 | [],vs=>vs=[]
 |.tmp t::r,vs=>∃v a,vs=v::a/\look L t=some v/\Res P L w r a
 |.cell u t::r,vs=>∃v a p,vs=v::a/\look L u=some (.pointer (some p))/\(loadVar t p).run P w= .ok v w/\Res P L w r a
def rv1 (a:Array Value):ResultVar->Sem Value
 |.tmp t=>pure (a.getD t undef)
 |.cell b t=>do loadVar t (← asAddr (a.getD b undef))
theorem Res.run {P:Program}{n:Nat}{L:Env}{w:World}{a:Act}(ha:Kn n L a):∀{l:List ResultVar}{vs:List Value},Res P L w l vs->(l.mapM (rv1 a.tmps)).run P w= .ok vs w
 | [],_,h=>by
  have h:_=[]:=h
  rw[h];simp
 |.tmp t::r,_,⟨v,i,b,c,d⟩=>by
  rw[b]
  have e:=ha.2.2 t v c
  have f:=Res.run ha d
  rw[List.mapM_cons,Sem.run_bind]
  simp[rv1,e,Sem.run_bind,f]
 |.cell u t::r,_,⟨v,i,p,b,c,d,e⟩=>by
  rw[b]
  have g:=ha.2.2 u _ c
  have f:=Res.run ha e
  rw[List.mapM_cons,Sem.run_bind]
  simp[rv1,g,asAddr,d,Sem.run_bind,f]
section
variable {P:Program}{n:Nat}{fn:Func}{R:Value->World->Prop}{L:Env}{w:World}
theorem rN {l:List ResultVar}{vs:List Value}{v:Value}{a:Act}(ha:Kn n L a) (f:fn.results=l.toArray) (e:Res P L w l vs) (g:(match vs with | [x]=>x | _=> .tuple vs.toArray)=v):(results fn a.tmps).run P w= .ok v w:=by
 have b:=e.run ha
 have c:(fn.results.mapM (rv1 a.tmps)).run P w= .ok vs.toArray w:=by
  rw[f,List.mapM_toArray,map_eq_pure_bind,Sem.run_bind,b]
  simp
 have d:results fn a.tmps=(fn.results.mapM (rv1 a.tmps)) >>=λvs=>pure (if h:vs.size=1 then vs[0] else .tuple vs):=by
  unfold results
  rfl
 rw[d,Sem.run_bind,c]
 simp only[Result.andThen_ok,Sem.run_pure]
 rw[← g]
 match vs with
 | []=>rfl
 | [x]=>rfl
 |x::y::r=>simp
theorem Jb2 {l:List ResultVar}{vs:List Value}{v:Value}(d:fn.results=l.toArray) (c:Res P L w l vs) (e:(match vs with | [x]=>x | _=> .tuple vs.toArray)=v) (h:R v w):
 DN n (bodyPost P fn (λb w'=>∃v,b= .returned v/\R v w')) .ret L w:=λa ha=>
 bodyPost_ret (v:=v) (rN ha d c e) ha.1 ⟨v,rfl,h⟩
theorem DN.end0 (c:fn.results= #[]) (h:R (.tuple #[]) w):DN n (bodyPost P fn (λb w'=>∃v,b= .returned v/\R v w')) .normal L w:=λa ha=>
 bodyPost_end (v:= .tuple #[]) (by simp[results,c]) ha.1 ⟨_,rfl,h⟩
theorem wv {t:Nat}{v:Value}{r:List ResultVar}{vs:List Value}(h:look L t=some v) (a:Res P L w r vs):Res P L w (.tmp t::r) (v::vs):=⟨v,vs,rfl,h,a⟩
theorem bv {u:Nat}{t T:TypeId}{b k i:Nat}{J:Col}{cs:List Value}{r:List ResultVar}{vs:List Value}(h:look L u=some (.pointer (some ⟨b,0,none⟩))) (a:Bc J w i b T cs) (ha:∀w,(isAgg t).run P w= .ok true w) (c:∀w,(sizeOf t).run P w= .ok k w) (d:cs.length=k)
 (e:Res P L w r vs):Res P L w (.cell u t::r) (.agg cs.toArray::vs):=⟨_,vs,_,rfl,h,by
 subst d
 simp[loadVar,ha,c,run_loadCells_list w ⟨b,0,none⟩ cs λj v f=>a.bx.cell f],e⟩
end
def nw (J:Col) (n i:Nat):Col:=λb=>bif yC b n then J b else i
theorem mQ {J:Col}{n i b:Nat}(h:n<=b):nw J n i b=i:=by
 have:yC b n=false:=by
  cases a:yC b n with
  |false=>rfl
  |true=>have:=Nat.ble_eq.mp a;omega
 simp[nw,this]
theorem Stp.nw {J:Col}{w w':World}(i:Nat) (e:Ext w w'):Stp [] J w (nw J w.heap.size i) w':=Stp.ext i e
section
variable {P:Program}{n:Nat}{ops:Array Oper}{C:World->Prop}{N:Act->World->Prop}{r:List (Nat×Nat)}{L:Env}{J:Col}{w:World}{i d:Nat}{o:Oper}
theorem WO.box (q:Nat) (j:ops[i]? =some o) (g:gd ops L o=some true) (f:o.dst=some d) (c:yC d n=true){T:TypeId}{x:Operand}{v:Value}{cs:List Value}
 (l:o.op= .box T x) (hx:opd L x=some v) (e:v.cells=cs.toArray) (k:∀b w' κ',Stp [] J w κ' w'->Bc κ' w' q b T cs->C w'/\WO P n ops C N r ((d,.pointer (some ⟨b,0,none⟩))::L) w'):WO P n ops C N ((i,1)::r) L w:=
 WO.l j g f c λa ha=>by
  unfold Runs
  have:(execOp a.eval o).run P w= .ok (.value (.pointer (some ⟨w.heap.size,0,none⟩))) (w.alloc (.cells cs.toArray T)):=by
   simp only[execOp,l,ha.eval hx,Instr.box,newVar,newRow,e,Sem.run_bind,Sem.run_pure,Result.andThen_ok,run_newObj]
   rfl
  rw[this]
  exact k _ _ _ (Stp.nw q (Ext.alloc _ _)) ⟨heap_alloc_new w _,mQ (yE _)⟩
theorem WO.alloc (q:Nat) (j:ops[i]? =some o) (g:gd ops L o=some true) (f:o.dst=some d) (c:yC d n=true){T:TypeId}{z:Value}{cs:List Value}
 (l:o.op= .alloc T) (m:∀w,(zeroValue T).run P w= .ok z w) (e:z.cells=cs.toArray) (k:∀b w' κ',Stp [] J w κ' w'->Bc κ' w' q b T cs->C w'/\WO P n ops C N r ((d,.pointer (some ⟨b,0,none⟩))::L) w'):WO P n ops C N ((i,1)::r) L w:=
 WO.l j g f c λa ha=>by
  unfold Runs
  have:(execOp a.eval o).run P w= .ok (.value (.pointer (some ⟨w.heap.size,0,none⟩))) (w.alloc (.cells cs.toArray T)):=by
   simp only[execOp,l,Instr.alloc,m,newVar,newRow,e,Sem.run_bind,Sem.run_pure,Result.andThen_ok,run_newObj]
   rfl
  rw[this]
  exact k _ _ _ (Stp.nw q (Ext.alloc _ _)) ⟨heap_alloc_new w _,mQ (yE _)⟩
end
end Go.Wk
