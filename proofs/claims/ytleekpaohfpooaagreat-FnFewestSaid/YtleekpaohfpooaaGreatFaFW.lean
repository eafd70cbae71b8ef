/- The walk's base: environments of temporaries as lists, regions in one order, steps. -/
import Derived.WalkKit
import Derived.ProofKit
import Derived.Orders
import Derived.Still
import Derived.KernelRfl
import Derived.Great.BuildSlice
set_option linter.unusedVariables false
set_option linter.unusedSimpArgs false
open List renaming getElem?_eq_some_iff → bK, length_append → z5, mem_singleton → z6, length_cons → z8, mem_append → Ad
open Bool renaming and_eq_true → sh
namespace Go.Wk
open Go
abbrev Env:=List (Nat×Value)
def look:Env->Nat->Option Value
 | [],_=>none
 | (k,v)::r,t=>bif Nat.beq k t then some v else look r t
def opd (L:Env):Operand->Option Value
 | .tmp t=>look L t
 | .const v=>some v
 | .global g=>some (.pointer (some ⟨g,0,none⟩))
 | .func a=>some (.func (.func a) #[] #[])
def Kn (n:Nat) (L:Env) (a:Act):Prop:=a.defers=[]/\a.tmps.size=n/\∀t v,look L t=some v->a.tmps[t]? =some v
theorem Kn.eval {n:Nat}{L:Env}{a:Act}(h:Kn n L a){x:Operand}{v:Value}(hx:opd L x=some v):a.eval x=v:=by
 cases x with
 | tmp t=>have:=h.2.2 t v hx;simp[Act.eval,this]
 | const u=>simpa [opd,Act.eval] using hx
 | global g=>simpa [opd,Act.eval] using hx
 | func b=>simpa [opd,Act.eval] using hx
theorem Kn.put {n:Nat}{L:Env}{a:Act}(h:Kn n L a){d:Nat}(hd:Nat.blt d n=true) (v:Value):Kn n ((d,v)::L) (a.put (some d) v):=by
 have c:d<n:=Nat.ble_eq.mp hd
 refine⟨h.1,by simpa [Act.put] using h.2.1,λt u b=>?_⟩
 simp only[look]at b
 by_cases e:d=t
 · subst e
   simp at b
   simp[Act.put,h.2.1,c,b]
 · have:Nat.beq d t=false:=by
    cases h:Nat.beq d t with
    | false=>rfl
    | true=>exact absurd (Nat.eq_of_beq_eq_true h) e
   simp only[this,cond_false]at b
   simp only[Act.put]
   rw[Array.getElem?_setIfInBounds_ne e]
   exact h.2.2 t u b
theorem Kn.nil {n:Nat}{L:Env}{a:Act}(h:Kn n L a):Kn n [] a:=⟨h.1,h.2.1,λ_ _ b=>by cases b⟩
theorem Kn.more {n:Nat}{L L':Env}{a:Act}(h:Kn n L a) (b:Kn n L' a){t:Nat}{v:Value}(ht:look L t=some v):Kn n ((t,v)::L') a:=
 ⟨h.1,h.2.1,λu x hx=>by
  simp only[look]at hx
  by_cases e:Nat.beq t u=true
  · simp only[e,cond_true,Option.some.injEq]at hx
    have:t=u:=Nat.eq_of_beq_eq_true e
    subst this;subst hx
    exact h.2.2 t v ht
  · simp only[Bool.not_eq_true]at e
    simp only[e,cond_false]at hx
    exact b.2.2 u x hx⟩
structure Fr (S:Nat->Prop) (w w':World):Prop where
 os:w'.os=w.os
 tape:w'.tape=w.tape
 output:w'.output=w.output
 size:w.heap.size<=w'.heap.size
 block:∀b,S b->w'.heap[b]? =w.heap[b]?
theorem Fr.refl (S:Nat->Prop) (w:World):Fr S w w:=⟨rfl,rfl,rfl,Nat.le_refl _,λ_ _=>rfl⟩
theorem Fr.trans {S:Nat->Prop}{a b c:World}(h:Fr S a b) (k:Fr S b c):Fr S a c:=
 ⟨k.os.trans h.os,k.tape.trans h.tape,k.output.trans h.output,Nat.le_trans h.size k.size,λi d=>(k.block i d).trans (h.block i d)⟩
theorem Fr.mono {S S':Nat->Prop}{a b:World}(h:Fr S a b) (hs:∀b,S' b->S b):Fr S' a b:=⟨h.os,h.tape,h.output,h.size,λi c=>h.block i (hs i c)⟩
theorem Fr.cell {S:Nat->Prop}{w w':World}(h:Fr S w w'){p:Addr}(hp:S p.block):w'.cell? p=w.cell? p:=World.cell?_of_block (h.block _ hp)
def All (w:World):Nat->Prop:=λb=>b<w.heap.size
abbrev Ext (w w':World):Prop:=Fr (All w) w w'
theorem Ext.trans {a b c:World}(h:Ext a b) (k:Ext b c):Ext a c:=Fr.trans h (Fr.mono k (λ_ hb=>Nat.lt_of_lt_of_le hb h.size))
theorem Ext.below {w w':World}(h:Ext w w'):RowKit.Below w.heap.size w w':=⟨h.os,h.tape,h.output,h.size,h.block⟩
theorem Ext.of_below {w w':World}(h:RowKit.Below w.heap.size w w'):Ext w w':=⟨h.os,h.tape,h.output,h.size,h.block⟩
theorem Ext.alloc (w:World) (o:Obj):Ext w (w.alloc o):=Ext.of_below ((RowKit.Below.refl _ _).alloc (Nat.le_refl _) o)
theorem Ext.drew (w:World):Ext w { w with drawn:=w.drawn+1 }:=⟨rfl,rfl,rfl,Nat.le_refl _,λ_ _=>rfl⟩
def Runs (P:Program) (o:Oper) (a:Act) (w:World) (K:Value->World->Prop):Prop:=
 match (execOp a.eval o).run P w with
 | .ok (.value v) w'=>K v w'
 | .ok .skip w'=>K undef w'
 | .ok (.enter c b) w'=>Calls P c b w' (λe d=>∃v,e= .returned v/\K v d)
 | _=>False
theorem Runs.mono {P:Program}{o:Oper}{a:Act}{w:World}{K K':Value->World->Prop}(h:Runs P o a w K) (hk:∀v w',K v w'->K' v w'):Runs P o a w K':=by
 unfold Runs at *
 split at h
 · exact hk _ _ h
 · exact hk _ _ h
 · exact h.mono λe d ⟨v,b,c⟩=>⟨v,b,hk _ _ c⟩
 · exact h.elim
theorem Runs.wp {P:Program}{o:Oper}{a:Act}{w:World}{N:Act->World->Prop}{Q:Exit->Act->World->Prop}
 (h:Runs P o a w (λv w'=>N (a.put o.dst v) w')):o.wp P a w N Q:=by
 unfold Runs at h
 unfold Oper.wp
 split at h
 · rename_i v w' hr;rw[hr];exact h
 · rename_i w' hr;rw[hr];exact h
 · rename_i f d w' hr;rw[hr]
   exact h.mono λe g ⟨v,b,c⟩=>by subst b;exact c
 · exact h.elim
section
variable {P:Program}{ops:Array Oper}{md:Region.Mode}{C:World->Prop}{N:Act->World->Prop}
def rOp (P:Program) (ops:Array Oper) (C:World->Prop) (i:Nat) (K:Act->World->Prop) (a:Act) (w:World):Prop:=
 match ops[i]? with
 | none=>K a w
 | some o=>if Region.wanted o (yielded ops a.tmps) then Runs P o a w (λv w'=>C w'/\K (a.put o.dst v) w') else K (a.put o.dst undef) w
theorem iw {i:Nat}{a:Act}{w:World}{K K':Act->World->Prop}(f:C w) (h:∀a w,C w->K a w->K' a w) (b:rOp P ops C i K a w):rOp P ops C i K' a w:=by
 unfold rOp at *
 split
 · rename_i d;simp only[d]at b;exact h _ _ f b
 · rename_i o d
   simp only[d]at b
   split
   · rename_i e;simp only[e,if_true]at b;exact b.mono λv w' ⟨c,k⟩=>⟨c,h _ _ c k⟩
   · rename_i e;simp only[e]at b;exact h _ _ f b
theorem kK {i:Nat}{a:Act}{w:World}{K:Act->World->Prop}{Q:Exit->Act->World->Prop}(b:rOp P ops C i K a w):wpOp P ops Q i K a w:=by
 unfold rOp at b
 unfold wpOp
 split
 · rename_i c;simp only[c]at b;exact b
 · rename_i o c
   simp only[c]at b
   split
   · rename_i d;simp only[d,if_true]at b;exact .inl (Runs.wp (b.mono λv w' ⟨_,k⟩=>k))
   · rename_i d;simp only[d]at b;exact b
def Qy (P:Program) (ops:Array Oper) (C:World->Prop) (o:Oper) (v:Value) (a:Act):Prop:=
 (Region.wanted o (yielded ops a.tmps)=true/\∀w,C w->(execOp a.eval o).run P w= .ok (.value v) w)\/(Region.wanted o (yielded ops a.tmps)=false/\v=undef)
theorem Qy.rOp {i:Nat}{o:Oper}{v:Value}{a:Act}{w:World}{K:Act->World->Prop}(hi:ops[i]? =some o) (hy:Qy P ops C o v a) (b:C w) (h:K (a.put o.dst v) w):rOp P ops C i K a w:=by
 unfold Wk.rOp
 simp only[hi]
 rcases hy with ⟨h1,h2⟩ | ⟨h1,rfl⟩
 · simp only[h1,if_true,Runs,h2 w b];exact⟨b,h⟩
 · simp only[h1,Bool.false_eq_true,if_false];exact h
theorem Qy.of_same {o:Oper}{v:Value}{a b:Act}(hy:Qy P ops C o v a) (c:execOp b.eval o=execOp a.eval o)
 (d:Region.wanted o (yielded ops b.tmps)=Region.wanted o (yielded ops a.tmps)):Qy P ops C o v b:=by
 unfold Qy at *
 rw[c,d]
 exact hy
def CL (l:Option Nat) (C:World->Prop) (listed:Array Bool) (w:World):Prop:=match l with
 | none=>C w
 | some l=>listed.getD l false=true\/C w
theorem CL.of {l:Option Nat}{C:World->Prop}{listed:Array Bool}{w:World}(h:C w):CL l C listed w:=by
 cases l with
 | none=>exact h
 | some l=>exact .inr h
theorem CL.set_ne {l:Option Nat}{C:World->Prop}{listed:Array Bool}{w:World}{i:Nat}(hi:l≠some i) (h:CL l C (listed.setIfInBounds i true) w):CL l C listed w:=by
 cases l with
 | none=>exact h
 | some l=>
  refine h.imp (λh=>?_) id
  rwa [getD_set_ne false (λe=>hi (by rw[e]))]at h
theorem CL.ne_set {l:Option Nat}{C:World->Prop}{listed:Array Bool}{w:World}{i:Nat}(h:CL l C listed w):CL l C (listed.setIfInBounds i true) w:=by
 cases l with
 | none=>exact h
 | some l=>exact h.imp getD_set_true id
def Dc (md:Region.Mode) (ops:Array Oper) (listed:Array Bool):Prop:=∀(j:Nat) o,ops[j]? =some o->listed.getD j false=true->∀e∈o.after,Region.binds md e=true->listed.getD e.on false=true
theorem Dc.set {listed:Array Bool}{i:Nat}(h:Dc md ops listed) (hi:i∈Region.ready md ops listed):Dc md ops (listed.setIfInBounds i true):=by
 intro j o hj hl e a hb
 by_cases b:i=j
 · subst b
   obtain⟨_,f,c,d⟩:=mem_ready.1 hi
   rw[hj]at c
   obtain rfl:=Option.some.inj c
   exact getD_set_true (d e a hb)
 · rw[getD_set_ne false b]at hl
   exact getD_set_true (h j o hj hl e a hb)
def ancB (md:Region.Mode) (ops:Array Oper):Nat->Nat->Nat->Bool
 | 0,_,_=>false
 | f+1,i,l=>match ops[l]? with
  | none=>false
  | some o=>o.after.any λe=>Region.binds md e&&(Nat.beq e.on i||ancB md ops f i e.on)
theorem Dc.anc {listed:Array Bool}(h:Dc md ops listed){i:Nat}:∀(f l:Nat),ancB md ops f i l=true->listed.getD l false=true->listed.getD i false=true
 | 0,_,hb,_=>by cases hb
 | f+1,l,hb,hl=>by
  unfold ancB at hb
  split at hb
  · cases hb
  · rename_i o d
    obtain⟨k,hk,a⟩:=Array.any_iff_exists.1 hb
    have c:o.after[k]∈o.after:=Array.getElem_mem _
    simp only[sh,Bool.or_eq_true]at a
    have b:=h l o d hl _ c a.2.2.1
    rcases a.2.2.2 with e | e
    · rw[← Nat.eq_of_beq_eq_true e];exact b
    · exact Dc.anc h f _ e b
def wAnyL (P:Program) (md:Region.Mode) (ops:Array Oper) (l:Option Nat) (C:World->Prop) (N:Act->World->Prop):Nat->Array Bool->Act->World->Prop
 | 0,listed,a,w=>Region.ready md ops listed=[]/\N a w
 | fuel+1,listed,a,w=>
  (Region.ready md ops listed=[]->N a w) /\
  ∀i∈Region.ready md ops listed,rOp P ops (CL l C (listed.setIfInBounds i true)) i (wAnyL P md ops l C N fuel (listed.setIfInBounds i true)) a w
theorem fS {l:Option Nat}{Q:Exit->Act->World->Prop}(b:∀a w,N a w->Q .normal a w):∀(fuel:Nat) (listed:Array Bool) (a:Act) (w:World),
 wAnyL P md ops l C N fuel listed a w->wpAny P md ops Q fuel listed a w
 | 0,_,_,_,h=>⟨h.1,b _ _ h.2⟩
 | fuel+1,_,a,w,h=>⟨λh0=>b _ _ (h.1 h0),λi e=>kK (C:=λ_=>True) (by
  have:=h.2 i e
  unfold rOp at *
  split
  · rename_i c;simp only[c]at this;exact fS b fuel _ _ _ this
  · rename_i o c
    simp only[c]at this
    split
    · rename_i d;simp only[d,if_true]at this;exact this.mono λv w' ⟨_,k⟩=>⟨trivial,fS b fuel _ _ _ k⟩
    · rename_i d;simp only[d]at this;exact fS b fuel _ _ _ this)⟩
theorem wY {D:World->Prop}{j:Nat}{c d:Oper}{v:Value}(hj:ops[j]? =some d) (l:c.apart ops d=true)
 (n:∀cs b,c.op≠ .select cs b) (o:∀cs b,d.op≠ .select cs b) {K:Act->World->Prop} {a:Act} {w:World}
 (hy:Qy P ops D c v a) (h:rOp P ops C j K (a.put c.dst v) w):
 rOp P ops C j (λi w'=>Qy P ops D c v i/\K (i.put c.dst v) w') a w:=by
 obtain⟨h1,h2,k⟩:=Oper.apart_spec l
 have f:∀u,Qy P ops D c v (a.put d.dst u):=λu=>
  hy.of_same (execOp_put c n a d.dst u k) (wanted_put c a d.dst u k)
 unfold rOp at *
 simp only[hj]at *
 rw[wanted_put d a c.dst v h1]at h
 split
 · rename_i g
   simp only[g,if_true]at h
   unfold Runs at *
   rw[execOp_put d o a c.dst v h1]at h
   split at h
   · exact⟨h.1,f _,by rw[← Act.put_comm a v _ h2];exact h.2⟩
   · exact⟨h.1,f _,by rw[← Act.put_comm a v _ h2];exact h.2⟩
   · exact h.mono λe p ⟨u,m,hc,hk⟩=>⟨u,m,hc,f _,by rw[← Act.put_comm a v _ h2];exact hk⟩
   · exact h.elim
 · rename_i g
   simp only[g]at h
   exact⟨f _,by rw[← Act.put_comm a v undef h2];exact h⟩
theorem g8 {C':World->Prop}{i:Nat}{a:Act}{w:World}{K K':Act->World->Prop}(g:C' w) (f:∀w,C w->C' w) (h:∀a w,C' w->K a w->K' a w) (b:rOp P ops C i K a w):rOp P ops C' i K' a w:=by
 unfold rOp at *
 split
 · rename_i d;simp only[d]at b;exact h _ _ g b
 · rename_i o d
   simp only[d]at b
   split
   · rename_i e;simp only[e,if_true]at b;exact b.mono λv w' ⟨c,k⟩=>⟨f _ c,h _ _ (f _ c) k⟩
   · rename_i e;simp only[e]at b;exact h _ _ g b
theorem jJ {l:Option Nat}{D:World->Prop}{i:Nat}{d:Oper}{v:Value}(hi:ops[i]? =some d) (hl:l≠some i) (hD:∀listed w,Dc md ops listed->i∈Region.ready md ops listed->CL l C listed w->D w)
 (y:∀(j:Nat) (o:Oper) cs b,ops[j]? =some o->o.op≠ .select cs b):
 ∀(fuel:Nat) (listed:Array Bool) (a:Act) (w:World),Dc md ops listed ->
  (∀j g,ops[j]? =some g->j≠i->listed.getD j true=false->(∀e∈g.after,Region.binds md e=true->e.on≠i)->d.apart ops g=true) ->
  i∈Region.ready md ops listed->Qy P ops D d v a->CL l C listed w ->
  wAnyL P md ops l C N fuel (listed.setIfInBounds i true) (a.put d.dst v) w->wAnyL P md ops l C N (fuel+1) listed a w:=by
 have r:∀(K:Act->World->Prop) (listed:Array Bool) (a:Act) (w:World),Dc md ops listed->i∈Region.ready md ops listed->Qy P ops D d v a->CL l C listed w->K (a.put d.dst v) w ->
  rOp P ops (CL l C (listed.setIfInBounds i true)) i K a w:=by
  intro K listed a w m hr hy f hk
  unfold Wk.rOp
  simp only[hi]
  rcases hy with ⟨h1,h2⟩ | ⟨h1,rfl⟩
  · simp only[h1,if_true,Runs,h2 w (hD listed w m hr f)];exact⟨f.ne_set,hk⟩
  · simp only[h1,Bool.false_eq_true,if_false];exact hk
 intro fuel
 induction fuel with
 | zero=>
  intro listed a w m _ hr hy f H
  refine⟨λh=>(by rw[h]at hr;cases hr),λj hj=>?_⟩
  by_cases c:j=i
  · subst c;exact r _ listed a w m hr hy f H
  · have:=ready_mono hj c
    rw[H.1]at this
    cases this
 | succ fuel O=>
  intro listed a w m t hr hy f H
  refine⟨λh=>(by rw[h]at hr;cases hr),λj hj=>?_⟩
  by_cases c:j=i
  · subst c;exact r _ listed a w m hr hy f H
  · have h1:=H.2 j (ready_mono hj c)
    obtain⟨x,g,q,B⟩:=mem_ready.1 hj
    have L:∀e∈g.after,Region.binds md e=true->e.on≠i:=λe E hb F=>by
     have h1:=B e E hb
     have h0:=(mem_ready.1 hr).1
     rw[F]at h1
     rcases Nat.lt_or_ge i listed.size with p | p
     · simp[p]at h0 h1;rw[h0]at h1;cases h1
     · simp[Array.getElem?_eq_none p]at h1
    have h2:=wY q (t j g q c x L) (λcs b=>y i d cs b hi) (λcs b=>y j g cs b q) hy h1
    have G:∀k n,ops[k]? =some n->k≠i->(listed.setIfInBounds j true).getD k true=false ->
     (∀e∈n.after,Region.binds md e=true->e.on≠i)->d.apart ops n=true:=λk n hk I z J=>by
     refine t k n hk I ?_ J
     by_cases u:j=k
     · subst u;exact x
     · rw[getD_set_ne true u]at z;exact z
    refine g8 f.ne_set (λw' hc=>?_) (λA w' M s=>O (listed.setIfInBounds j true) A w' (m.set hj) G (ready_mono hr (Ne.symm c)) s.1 M ?_) h2
    · rw[Array.setIfInBounds_comm _ _ (Ne.symm c)]at hc
      exact CL.set_ne hl hc
    · rw[Array.setIfInBounds_comm _ _ c]
      exact s.2
def Wlk (P:Program) (ops:Array Oper) (C:World->Prop) (N:Act->World->Prop):List (Nat×Nat)->Act->World->Prop
 | [],a,w=>N a w
 | (i,0)::r,a,w=>∃o v,ops[i]? =some o/\Qy P ops C o v a/\Wlk P ops C N r (a.put o.dst v) w
 | (i,1)::r,a,w=>rOp P ops C i (Wlk P ops C N r) a w
 | (i,_+2)::r,a,w=>∃o v,ops[i]? =some o/\Qy P ops (λ_=>True) o v a/\Wlk P ops C N r (a.put o.dst v) w
def ordB (md:Region.Mode) (ops:Array Oper) (l:Option Nat):List (Nat×Nat)->Array Bool->List (Nat×Nat)->Bool
 | [],listed,o2=>ord2 listed o2
 | (i,1)::r,listed,o2=>(match Region.ready md ops listed with | [j]=>Nat.beq j i | _=>false)&&ne i&&ordB md ops l r (listed.setIfInBounds i true) o2
 | (i,k)::r,listed,o2=>(Region.ready md ops listed).contains i&&Region.free md ops listed i&&ne i&&(Nat.beq k 2||(Nat.beq k 0&&anc i))&&ordB md ops l r (listed.setIfInBounds i true) o2
where
 ne (i:Nat):Bool:=match l with | none=>true | some l=> !(Nat.beq l i)
 anc (i:Nat):Bool:=match l with | none=>true | some l=>ancB md ops ops.size i l
 ord2:Array Bool->List (Nat×Nat)->Bool
  | listed,[]=>(Region.ready md ops listed).isEmpty
  | listed,(i,1)::r=>(match Region.ready md ops listed with | [j]=>Nat.beq j i | _=>false)&&lis i listed&&ord2 (listed.setIfInBounds i true) r
  | listed,(i,k)::r=>(Region.ready md ops listed).contains i&&Region.free md ops listed i&&ne i&&Nat.beq k 2&&ord2 (listed.setIfInBounds i true) r
 lis (i:Nat) (listed:Array Bool):Bool:=match l with | none=>false | some l=>(listed.setIfInBounds i true).getD l false
def ordOk (ops:Array Oper) (l:Option Nat) (a b:List (Nat×Nat)):Bool:=Nat.beq (a.length+b.length) ops.size&&Region.noSelect ops&&ordB .any ops l a (Array.replicate ops.size false) b
theorem uo {listed:Array Bool}{i:Nat}(h:(match Region.ready md ops listed with | [j]=>Nat.beq j i | _=>false)=true):Region.ready md ops listed=[i]:=by
 split at h
 · rename_i j hr;rw[hr,Nat.eq_of_beq_eq_true h]
 · cases h
theorem nQ {l:Option Nat}{i:Nat}(h:ordB.ne l i=true):l≠some i:=by
 intro e
 subst e
 simp[ordB.ne,Nat.beq_refl]at h
theorem lX {l:Option Nat}(hs:Region.noSelect ops=true):∀(c:List (Nat×Nat)) (listed:Array Bool) (a:Act) (w:World),ordB.ord2 md ops l listed c=true->Dc md ops listed->CL l C listed w ->
 Wlk P ops (λ_=>True) N c a w->wAnyL P md ops l C N c.length listed a w
 | [],_,_,_,hB,_,_,h=>⟨by simpa [ordB.ord2] using hB,h⟩
 | (i,1)::r,listed,a,w,hB,hdc,hw,h=>by
  simp only[ordB.ord2,sh]at hB
  obtain⟨⟨h1,h0⟩,h2⟩:=hB
  have hr:=uo h1
  have b:i∈Region.ready md ops listed:=by rw[hr];exact z6.2 rfl
  refine⟨λh0=>(by rw[hr]at h0;cases h0),λk hk=>?_⟩
  rw[hr]at hk
  simp only[z6]at hk
  subst hk
  have d:∀w',CL l C (listed.setIfInBounds k true) w':=λw'=>by
   cases l with
   | none=>simp[ordB.lis]at h0
   | some l=>exact .inl h0
  exact g8 (d w) (λw' _=>d w') (λf w' m k'=>lX hs r _ f w' h2 (hdc.set b) m k') h
 | (i,0)::r,listed,a,w,hB,_,_,_=>by simp[ordB.ord2]at hB
 | (i,k+2)::r,listed,a,w,hB,hdc,hw,h=>by
  simp only[ordB.ord2,sh]at hB
  obtain⟨⟨⟨⟨h1,h2⟩,g⟩,_⟩,j⟩:=hB
  obtain⟨o,v,e,hy,hk⟩:=h
  have b:i∈Region.ready md ops listed:=by simpa using h1
  exact jJ (D:=λ_=>True) e (nQ g) (λ_ _ _ _ _=>trivial) (Region.noSelect_spec hs) r.length listed a w hdc (Region.free_spec e h2) b hy hw (lX hs r _ _ w j (hdc.set b) hw.ne_set hk)
theorem mV {l:Option Nat}{c:List (Nat×Nat)}(hs:Region.noSelect ops=true):∀(p:List (Nat×Nat)) (listed:Array Bool) (a:Act) (w:World),ordB md ops l p listed c=true->Dc md ops listed->CL l C listed w->C w ->
 Wlk P ops C (λa w=>Wlk P ops (λ_=>True) N c a w) p a w->wAnyL P md ops l C N (p.length+c.length) listed a w
 | [],listed,a,w,hB,hdc,hw,_,h=>by
  rw[List.length_nil,Nat.zero_add]
  exact lX hs c listed a w hB hdc hw h
 | (i,1)::r,listed,a,w,hB,hdc,hw,hc,h=>by
  simp only[ordB,sh]at hB
  obtain⟨⟨h1,_⟩,h2⟩:=hB
  have hr:=uo h1
  have b:i∈Region.ready md ops listed:=by rw[hr];exact z6.2 rfl
  rw[z8,Nat.add_right_comm]
  refine⟨λh0=>(by rw[hr]at h0;cases h0),λk hk=>?_⟩
  rw[hr]at hk
  simp only[z6]at hk
  subst hk
  have d:rOp P ops C k (λa w=>C w/\Wlk P ops C (λa w=>Wlk P ops (λ_=>True) N c a w) r a w) a w:=iw hc (λ_ _ hc hk=>⟨hc,hk⟩) h
  exact g8 (CL.of hc) (λw'=>CL.of) (λs w' x k'=>mV hs r _ s w' h2 (hdc.set b) x k'.1 k'.2) d
 | (i,0)::r,listed,a,w,hB,hdc,hw,hc,h=>by
  simp only[ordB,sh]at hB
  obtain⟨⟨⟨⟨h1,h2⟩,g⟩,t⟩,j⟩:=hB
  obtain⟨o,v,f,hy,hk⟩:=h
  have b:i∈Region.ready md ops listed:=by simpa using h1
  rw[z8,Nat.add_right_comm]
  have u:ordB.anc md ops l i=true:=by simpa using t
  refine jJ (D:=C) f (nQ g) (λy w' hd hr q=>?_) (Region.noSelect_spec hs) (r.length+c.length) listed a w hdc (Region.free_spec f h2) b hy hw (mV hs r _ _ w j (hdc.set b) hw.ne_set hc hk)
  cases l with
  | none=>exact q
  | some l=>
   rcases q with e | e
   · have m:=hd.anc _ _ u e
     have n:=(mem_ready.1 hr).1
     rcases Nat.lt_or_ge i y.size with d | d
     · simp[d]at m n;rw[m]at n;cases n
     · simp[Array.getElem?_eq_none d]at m
   · exact e
 | (i,k+2)::r,listed,a,w,hB,hdc,hw,hc,h=>by
  simp only[ordB,sh]at hB
  obtain⟨⟨⟨⟨h1,h2⟩,g⟩,_⟩,j⟩:=hB
  obtain⟨o,v,f,hy,hk⟩:=h
  have b:i∈Region.ready md ops listed:=by simpa using h1
  rw[z8,Nat.add_right_comm]
  exact jJ (D:=λ_=>True) f (nQ g) (λ_ _ _ _ _=>trivial) (Region.noSelect_spec hs) (r.length+c.length) listed a w hdc (Region.free_spec f h2) b hy hw (mV hs r _ _ w j (hdc.set b) hw.ne_set hc hk)
theorem qC {id:Nat}{Q:Exit->Act->World->Prop}{a:Act}{w:World}(l:Option Nat) (b d:List (Nat×Nat)) (hm:P.follows .mixedOrders=true) (hB:ordOk ops l b d=true)
 (f:C { w with drawn:=w.drawn+1 }) (h:Wlk P ops C (λa w=>Wlk P ops (λ_=>True) (λa w=>Q .normal a w) d a w) b a { w with drawn:=w.drawn+1 }):(Code.region id ops true).wp P Q a w:=by
 simp only[ordOk,sh]at hB
 obtain⟨⟨h1,h2⟩,e⟩:=hB
 refine wp_region_any hm (fS (N:=λa w=>Q .normal a w) (l:=l) (C:=C) (λ_ _ h=>h) _ _ _ _ ?_)
 rw[← Nat.eq_of_beq_eq_true h1]
 rw[← Nat.eq_of_beq_eq_true h1]at e
 refine mV h2 b _ a _ e ?_ (CL.of f) f h
 intro j o _ hl
 exfalso
 rcases Nat.lt_or_ge j (b.length+d.length) with c | c
 · simp[c]at hl
 · simp[Array.getElem?_eq_none,c]at hl
theorem jP {Q:Exit->Act->World->Prop}:∀(c:List (Nat×Nat)) (a:Act) (w:World),C w ->
 Wlk P ops C (λa w=>Q .normal a w) c a w->wpOps P ops Q (c.map (·.1)) a w
 | [],_,_,_,h=>h
 | (i,1)::r,a,w,hw,h=>by
  simp only[List.map_cons,wpOps_cons]
  exact kK (C:=C) (iw hw (λd w' e k=>jP r d w' e k) h)
 | (i,0)::r,a,w,hw,h=>by
  simp only[List.map_cons,wpOps_cons]
  obtain⟨o,v,b,hy,hk⟩:=h
  exact kK (C:=C) (hy.rOp b hw (jP r _ w hw hk))
 | (i,k+2)::r,a,w,hw,h=>by
  simp only[List.map_cons,wpOps_cons]
  obtain⟨o,v,b,hy,hk⟩:=h
  exact kK (C:=λ_=>True) (hy.rOp b trivial (jP r _ w hw hk))
theorem qD {id:Nat}{Q:Exit->Act->World->Prop}{a:Act}{w:World}(b:List (Nat×Nat)) (hB:b.map (·.1)=List.range ops.size)
 (c:C w) (h:Wlk P ops C (λa w=>Q .normal a w) b a w):(Code.region id ops false).wp P Q a w:=
 wp_region (by rw[← hB];exact jP b a w c h)
def setAll:List (Nat×Nat)->Array Bool->Array Bool
 | [],s=>s
 | (i,_)::r,s=>setAll r (s.setIfInBounds i true)
def segB (md:Region.Mode) (ops:Array Oper) (l:Option Nat):List (Nat×Nat)->Array Bool->Bool
 | [],_=>true
 | (i,1)::r,listed=>(match Region.ready md ops listed with | [j]=>Nat.beq j i | _=>false)&&ordB.ne l i&&segB md ops l r (listed.setIfInBounds i true)
 | (i,k)::r,listed=>(Region.ready md ops listed).contains i&&Region.free md ops listed i&&ordB.ne l i&&(Nat.beq k 2||(Nat.beq k 0&&ordB.anc md ops l i))&&segB md ops l r (listed.setIfInBounds i true)
theorem mW {l:Option Nat}{fuel:Nat}(hs:Region.noSelect ops=true):∀(f:List (Nat×Nat)) (listed:Array Bool) (a:Act) (w:World),segB md ops l f listed=true->Dc md ops listed->CL l C listed w->C w ->
 Wlk P ops C (λa w=>C w->Dc md ops (setAll f listed)->wAnyL P md ops l C N fuel (setAll f listed) a w) f a w->wAnyL P md ops l C N (f.length+fuel) listed a w
 | [],listed,a,w,_,hdc,_,hc,h=>by
  rw[List.length_nil,Nat.zero_add]
  exact h hc hdc
 | (i,1)::r,listed,a,w,hB,hdc,hw,hc,h=>by
  simp only[segB,sh]at hB
  obtain⟨⟨h1,_⟩,h2⟩:=hB
  have hr:=uo h1
  have b:i∈Region.ready md ops listed:=by rw[hr];exact z6.2 rfl
  rw[z8,Nat.add_right_comm]
  refine⟨λh0=>(by rw[hr]at h0;cases h0),λk hk=>?_⟩
  rw[hr]at hk
  simp only[z6]at hk
  subst hk
  have c:rOp P ops C k (λa w=>C w/\Wlk P ops C (λa w=>C w->Dc md ops (setAll ((k,1)::r) listed)->wAnyL P md ops l C N fuel (setAll ((k,1)::r) listed) a w) r a w) a w:=iw hc (λ_ _ hc hk=>⟨hc,hk⟩) h
  exact g8 (CL.of hc) (λw'=>CL.of) (λq w' u k'=>mW hs r _ q w' h2 (hdc.set b) u k'.1 k'.2) c
 | (i,0)::r,listed,a,w,hB,hdc,hw,hc,h=>by
  simp only[segB,sh]at hB
  obtain⟨⟨⟨⟨h1,h2⟩,g⟩,s⟩,j⟩:=hB
  obtain⟨o,v,d,hy,hk⟩:=h
  have b:i∈Region.ready md ops listed:=by simpa using h1
  rw[z8,Nat.add_right_comm]
  have t:ordB.anc md ops l i=true:=by simpa using s
  refine jJ (D:=C) d (nQ g) (λx w' hd hr p=>?_) (Region.noSelect_spec hs) (r.length+fuel) listed a w hdc (Region.free_spec d h2) b hy hw (mW hs r _ _ w j (hdc.set b) hw.ne_set hc hk)
  cases l with
  | none=>exact p
  | some l=>
   rcases p with e | e
   · have m:=hd.anc _ _ t e
     have n:=(mem_ready.1 hr).1
     rcases Nat.lt_or_ge i x.size with c | c
     · simp[c]at m n;rw[m]at n;cases n
     · simp[Array.getElem?_eq_none c]at m
   · exact e
 | (i,k+2)::r,listed,a,w,hB,hdc,hw,hc,h=>by
  simp only[segB,sh]at hB
  obtain⟨⟨⟨⟨h1,h2⟩,g⟩,_⟩,j⟩:=hB
  obtain⟨o,v,d,hy,hk⟩:=h
  have b:i∈Region.ready md ops listed:=by simpa using h1
  rw[z8,Nat.add_right_comm]
  exact jJ (D:=λ_=>True) d (nQ g) (λ_ _ _ _ _=>trivial) (Region.noSelect_spec hs) (r.length+fuel) listed a w hdc (Region.free_spec d h2) b hy hw (mW hs r _ _ w j (hdc.set b) hw.ne_set hc hk)
theorem uH {l:Option Nat}{fuel:Nat}{listed:Array Bool}{a:Act}{w:World}{is:List Nat}(hr:Region.ready md ops listed=is) (b:is.isEmpty=false) (d:Dc md ops listed) (hc:C w)
 (h:∀i,i∈is->(rOp P ops C i (λa w=>C w->Dc md ops (listed.setIfInBounds i true)->wAnyL P md ops l C N fuel (listed.setIfInBounds i true) a w) a w)):wAnyL P md ops l C N (fuel+1) listed a w:=by
 refine⟨λh0=>?_,λk hk=>?_⟩
 · rw[hr]at h0;rw[h0]at b;cases b
 · have h1:=h k (hr ▸ hk)
   have c:rOp P ops C k (λa w=>C w/\(C w->Dc md ops (listed.setIfInBounds k true)->wAnyL P md ops l C N fuel (listed.setIfInBounds k true) a w)) a w:=iw hc (λ_ _ hc hk=>⟨hc,hk⟩) h1
   exact g8 (CL.of hc) (λw'=>CL.of) (λe w' _ k'=>k'.2 k'.1 (d.set hk)) c
theorem uI {l:Option Nat}(hs:Region.noSelect ops=true){b:List (Nat×Nat)}{listed:Array Bool}{a:Act}{w:World}(hB:ordB.ord2 md ops l listed b=true) (c:Dc md ops listed) (hc:C w)
 (h:Wlk P ops (λ_=>True) N b a w):wAnyL P md ops l C N b.length listed a w:=lX hs b listed a w hB c (CL.of hc) h
theorem mE {N':Act->World->Prop}(b:∀a w,N a w->N' a w):∀(r:List (Nat×Nat)) (a:Act) (w:World),Wlk P ops C N r a w->C w->Wlk P ops C N' r a w
 | [],_,_,h,_=>b _ _ h
 | (i,0)::r,a,w,⟨o,v,h1,h2,h3⟩,hC=>⟨o,v,h1,h2,mE b r _ _ h3 hC⟩
 | (i,1)::r,a,w,h,hC=>by
  have d:rOp P ops C i (Wlk P ops C N r) a w:=h
  exact iw hC (λc w' hc hk=>mE b r c w' hk hc) d
 | (i,k+2)::r,a,w,⟨o,v,h1,h2,h3⟩,hC=>⟨o,v,h1,h2,mE b r _ _ h3 hC⟩
def WO (P:Program) (n:Nat) (ops:Array Oper) (C:World->Prop) (N:Act->World->Prop) (b:List (Nat×Nat)) (L:Env) (w:World):Prop:=∀a,Kn n L a->Wlk P ops C N b a w
def gd (ops:Array Oper) (L:Env) (o:Oper):Option Bool:=
 match o.guard with
 | none=>some true
 | some (j,b)=>match (ops[j]?).bind (·.dst) with
  | some d=>match look L d with
   | some (.bool c)=>some (c==b)
   | some (.tuple _)=>some false
   | _=>none
  | none=>none
theorem iU {n:Nat}{L:Env}{o:Oper}{a:Act}{g:Bool}(ha:Kn n L a) (h:gd ops L o=some g):Region.wanted o (yielded ops a.tmps)=g:=by
 unfold gd at h
 unfold Region.wanted
 split at h
 · rename_i e;simp only[e];simpa using h
 · rename_i j b e
   simp only[e]
   split at h
   · rename_i d hd
     have hy:yielded ops a.tmps j=match a.tmps[d]? with | some (.bool b)=>some b | _=>none:=by
      simp only[yielded,hd,Option.bind_some]
      rfl
     rw[hy]
     split at h
     · rename_i c hc
       rw[ha.2.2 d _ hc]
       simp only[Option.some.injEq]at h
       subst h
       cases c <;> cases b <;> rfl
     · rename_i c hc
       rw[ha.2.2 d _ hc]
       simp only[Option.some.injEq]at h
       subst h
       rfl
     · cases h
   · cases h
theorem WO.q {n:Nat}{r:List (Nat×Nat)}{L:Env}{w:World}{i d:Nat}{o:Oper}(c:ops[i]? =some o) (b:gd ops L o=some true) (hd:o.dst=some d) (hb:Nat.blt d n=true){v:Value}
 (hr:∀a w',Kn n L a->C w'->(execOp a.eval o).run P w'= .ok (.value v) w') (k:WO P n ops C N r ((d,v)::L) w):WO P n ops C N ((i,0)::r) L w:=
 λa ha=>⟨o,v,c,.inl ⟨iU ha b,λw' e=>hr a w' ha e⟩,by rw[hd];exact k _ (ha.put hb v)⟩
theorem WO.qs {n:Nat}{r:List (Nat×Nat)}{L:Env}{w:World}{i d:Nat}{o:Oper}(c:ops[i]? =some o) (b:gd ops L o=some false) (hd:o.dst=some d) (hb:Nat.blt d n=true)
 (k:WO P n ops C N r ((d,undef)::L) w):WO P n ops C N ((i,0)::r) L w:=
 λa ha=>⟨o,undef,c,.inr ⟨iU ha b,rfl⟩,by rw[hd];exact k _ (ha.put hb undef)⟩
theorem WO.p {n:Nat}{r:List (Nat×Nat)}{L:Env}{w:World}{i d:Nat}{o:Oper}(c:ops[i]? =some o) (b:gd ops L o=some true) (hd:o.dst=some d) (hb:Nat.blt d n=true){v:Value}
 (hr:∀a w',Kn n L a->(execOp a.eval o).run P w'= .ok (.value v) w') (k:WO P n ops C N r ((d,v)::L) w):WO P n ops C N ((i,2)::r) L w:=
 λa ha=>⟨o,v,c,.inl ⟨iU ha b,λw' _=>hr a w' ha⟩,by rw[hd];exact k _ (ha.put hb v)⟩
theorem WO.ps {n:Nat}{r:List (Nat×Nat)}{L:Env}{w:World}{i d:Nat}{o:Oper}(c:ops[i]? =some o) (b:gd ops L o=some false) (hd:o.dst=some d) (hb:Nat.blt d n=true)
 (k:WO P n ops C N r ((d,undef)::L) w):WO P n ops C N ((i,2)::r) L w:=
 λa ha=>⟨o,undef,c,.inr ⟨iU ha b,rfl⟩,by rw[hd];exact k _ (ha.put hb undef)⟩
theorem WO.ls {n:Nat}{r:List (Nat×Nat)}{L:Env}{w:World}{i d:Nat}{o:Oper}(c:ops[i]? =some o) (b:gd ops L o=some false) (hd:o.dst=some d) (hb:Nat.blt d n=true)
 (k:WO P n ops C N r ((d,undef)::L) w):WO P n ops C N ((i,1)::r) L w:=
 λa ha=>by simp only[Wlk,rOp,c,iU ha b,Bool.false_eq_true,if_false,hd];exact k _ (ha.put hb undef)
theorem WO.l {n:Nat}{r:List (Nat×Nat)}{L:Env}{w:World}{i d:Nat}{o:Oper}(c:ops[i]? =some o) (b:gd ops L o=some true) (hd:o.dst=some d) (hb:Nat.blt d n=true)
 (hr:∀a,Kn n L a->Runs P o a w (λv w'=>C w'/\WO P n ops C N r ((d,v)::L) w')):WO P n ops C N ((i,1)::r) L w:=
 λa ha=>by
  simp only[Wlk,rOp,c,iU ha b,if_true,hd]
  exact(hr a ha).mono λv w' ⟨hc,hk⟩=>⟨hc,hk _ (ha.put hb v)⟩
theorem WO.ln {n:Nat}{r:List (Nat×Nat)}{L:Env}{w:World}{i:Nat}{o:Oper}(c:ops[i]? =some o) (b:gd ops L o=some true) (hd:o.dst=none)
 (hr:∀a,Kn n L a->Runs P o a w (λ_ w'=>C w'/\WO P n ops C N r L w')):WO P n ops C N ((i,1)::r) L w:=
 λa ha=>by
  simp only[Wlk,rOp,c,iU ha b,if_true,hd]
  exact(hr a ha).mono λv w' ⟨hc,hk⟩=>⟨hc,hk _ ha⟩
end
section
variable {P:Program}{n:Nat}{Q:Exit->Act->World->Prop}{L:Env}{w:World}
def WC (P:Program) (n:Nat) (c:Code) (Q:Exit->Act->World->Prop) (L:Env) (w:World):Prop:=∀a,Kn n L a->c.wp P Q a w
def DN (n:Nat) (Q:Exit->Act->World->Prop) (e:Exit) (L:Env) (w:World):Prop:=∀a,Kn n L a->Q e a w
theorem WC.reg {id:Nat}{ops:Array Oper}(C:World->Prop) (b:List (Nat×Nat)) (hB:b.map (·.1)=List.range ops.size) (c:C w)
 (h:WO P n ops C (λa w=>Q .normal a w) b L w):WC P n (.region id ops false) Q L w:=λa ha=>qD b hB c (h a ha)
theorem WC.regd {id:Nat}{ops:Array Oper}(C:World->Prop) (l:Option Nat) (b c:List (Nat×Nat)) (hm:P.follows .mixedOrders=true) (hB:ordOk ops l b c=true) (d:C { w with drawn:=w.drawn+1 })
 (h:WO P n ops C (λa w=>Wlk P ops (λ_=>True) (λa w=>Q .normal a w) c a w) b L { w with drawn:=w.drawn+1 }):WC P n (.region id ops true) Q L w:=λa ha=>qC l b c hm hB d (h a ha)
def WA (P:Program) (n:Nat) (ops:Array Oper) (l:Option Nat) (C:World->Prop) (N:Act->World->Prop) (listed:Array Bool) (fuel:Nat) (L:Env) (w:World):Prop:=∀a,Kn n L a->C w->Dc .any ops listed->wAnyL P .any ops l C N fuel listed a w
section
variable {ops:Array Oper}{l:Option Nat}{C:World->Prop}{N:Act->World->Prop}{listed:Array Bool}{fuel:Nat}
theorem WA.seg (o:List (Nat×Nat)){b:Nat}(hs:Region.noSelect ops=true) (hB:segB .any ops l o listed=true) (hf:o.length+fuel=b)
 (h:WO P n ops C (λa w=>∃L,Kn n L a/\WA P n ops l C N (setAll o listed) fuel L w) o L w):WA P n ops l C N listed b L w:=λa ha hc c=>by
 subst hf
 refine mW hs o listed a w hB c (CL.of hc) hc ?_
 exact mE (λa w ⟨L,hk,d⟩ hc hd=>d a hk hc hd) o a w (h a ha) hc
theorem WO.wa {listed:Array Bool}{fuel:Nat}(h:WA P n ops l C N listed fuel L w):WO P n ops C (λa w=>∃L,Kn n L a/\WA P n ops l C N listed fuel L w) [] L w:=λa ha=>⟨L,ha,h⟩
theorem WA.fork (is:List Nat){b:Nat}(hr:Region.ready .any ops listed=is) (e:is.isEmpty=false) (hf:fuel+1=b)
 (h:∀i,i∈is->WO P n ops C (λa w=>∃L,Kn n L a/\WA P n ops l C N (listed.setIfInBounds i true) fuel L w) [(i,1)] L w):WA P n ops l C N listed b L w:=λa ha hc c=>by
 subst hf
 refine uH hr e c hc λi d=>?_
 have h1:rOp P ops C i (λa w=>∃L,Kn n L a/\WA P n ops l C N (listed.setIfInBounds i true) fuel L w) a w:=h i d a ha
 exact iw hc (λa w _ ⟨L,hk,f⟩ hc hd=>f a hk hc hd) h1
theorem WA.fork2 (i j:Nat){b:Nat}(hr:Region.ready .any ops listed=[i,j]) (hf:fuel+1=b)
 (h1:WO P n ops C (λa w=>∃L,Kn n L a/\WA P n ops l C N (listed.setIfInBounds i true) fuel L w) [(i,1)] L w)
 (h2:WO P n ops C (λa w=>∃L,Kn n L a/\WA P n ops l C N (listed.setIfInBounds j true) fuel L w) [(j,1)] L w):WA P n ops l C N listed b L w:=
 WA.fork [i,j] hr rfl hf λk hk=>by
  simp only[List.mem_cons,List.not_mem_nil,or_false]at hk
  rcases hk with rfl | rfl
  · exact h1
  · exact h2
theorem WA.fork3 (i j m:Nat){b:Nat}(hr:Region.ready .any ops listed=[i,j,m]) (hf:fuel+1=b)
 (h1:WO P n ops C (λa w=>∃L,Kn n L a/\WA P n ops l C N (listed.setIfInBounds i true) fuel L w) [(i,1)] L w)
 (h2:WO P n ops C (λa w=>∃L,Kn n L a/\WA P n ops l C N (listed.setIfInBounds j true) fuel L w) [(j,1)] L w)
 (c:WO P n ops C (λa w=>∃L,Kn n L a/\WA P n ops l C N (listed.setIfInBounds m true) fuel L w) [(m,1)] L w):WA P n ops l C N listed b L w:=
 WA.fork [i,j,m] hr rfl hf λk hk=>by
  simp only[List.mem_cons,List.not_mem_nil,or_false]at hk
  rcases hk with rfl | rfl | rfl
  · exact h1
  · exact h2
  · exact c
theorem kL {listed:Array Bool}{i l:Nat}(h:listed.getD l false=true):(listed.setIfInBounds i true).getD l false=true:=by
 by_cases e:i=l
 · subst e
   have hs:i<listed.size:=by
    rcases Nat.lt_or_ge i listed.size with a | a
    · exact a
    · simp[Array.getElem?_eq_none a]at h
   simp[hs]
 · simp only[Array.getD_eq_getD_getElem?,Array.getElem?_setIfInBounds_ne e]at h ⊢
   exact h
theorem qe {md:Region.Mode}{C':World->Prop}{b:Nat}:∀(fuel:Nat) (listed:Array Bool) (a:Act) (w:World),listed.getD b false=true->wAnyL P md ops (some b) C N fuel listed a w->wAnyL P md ops (some b) C' N fuel listed a w
 | 0,_,_,_,_,h=>h
 | fuel+1,listed,a,w,hl,h=>⟨h.1,λi d=>g8 (.inl (kL hl)) (λw' _=> .inl (kL hl)) (λc w' _ k=>qe fuel _ c w' (kL hl) k) (h.2 i d)⟩
theorem WA.forkB (is:List Nat) (b:Nat){j:Nat}(hr:Region.ready .any ops listed=is) (m:is.isEmpty=false) (hf:fuel+1=j) (hl:(listed.setIfInBounds b true).getD b false=true)
 (h:∀i,i∈is->i≠b->WO P n ops C (λa w=>∃L,Kn n L a/\WA P n ops (some b) C N (listed.setIfInBounds i true) fuel L w) [(i,1)] L w)
 (hb:WO P n ops (λ_=>True) (λa w=>∃L,Kn n L a/\WA P n ops (some b) (λ_=>True) N (listed.setIfInBounds b true) fuel L w) [(b,1)] L w):WA P n ops (some b) C N listed j L w:=λa ha hc l=>by
 subst hf
 refine⟨λh0=>?_,λk hk=>?_⟩
 · rw[hr]at h0;rw[h0]at m;cases m
 · by_cases e:k=b
   · subst e
     have h1:rOp P ops (λ_=>True) k (λa w=>∃L,Kn n L a/\WA P n ops (some k) (λ_=>True) N (listed.setIfInBounds k true) fuel L w) a w:=hb a ha
     exact g8 (.inl hl) (λ_ _=> .inl hl) (λd w' _ ⟨L,f,g⟩=>qe _ _ _ _ hl (g d f trivial (l.set hk))) h1
   · have h1:rOp P ops C k (λa w=>∃L,Kn n L a/\WA P n ops (some b) C N (listed.setIfInBounds k true) fuel L w) a w:=h k (hr ▸ hk) e a ha
     have o:rOp P ops C k (λa w=>C w/\∃L,Kn n L a/\WA P n ops (some b) C N (listed.setIfInBounds k true) fuel L w) a w:=iw hc (λ_ _ hc hk=>⟨hc,hk⟩) h1
     exact g8 (CL.of hc) (λw'=>CL.of) (λd w' _ ⟨c,L,f,g⟩=>g d f c (l.set hk)) o
theorem WA.forkB2r (i b:Nat){c:Nat}(hr:Region.ready .any ops listed=[i,b]) (hf:fuel+1=c) (hl:(listed.setIfInBounds b true).getD b false=true)
 (h:WO P n ops C (λa w=>∃L,Kn n L a/\WA P n ops (some b) C N (listed.setIfInBounds i true) fuel L w) [(i,1)] L w)
 (hb:WO P n ops (λ_=>True) (λa w=>∃L,Kn n L a/\WA P n ops (some b) (λ_=>True) N (listed.setIfInBounds b true) fuel L w) [(b,1)] L w):WA P n ops (some b) C N listed c L w:=
 WA.forkB [i,b] b hr rfl hf hl (λk hk d=>by
  simp only[List.mem_cons,List.not_mem_nil,or_false]at hk
  rcases hk with rfl | rfl
  · exact h
  · exact absurd rfl d) hb
theorem WA.brk (b:Nat){c:Nat}(hr:Region.ready .any ops listed=[b]) (hf:fuel+1=c) (hl:(listed.setIfInBounds b true).getD b false=true)
 (hb:WO P n ops (λ_=>True) (λa w=>∃L,Kn n L a/\WA P n ops (some b) (λ_=>True) N (listed.setIfInBounds b true) fuel L w) [(b,1)] L w):WA P n ops (some b) C N listed c L w:=
 WA.forkB [b] b hr rfl hf hl (λk hk d=>absurd (z6.1 hk) d) hb
theorem WA.last (b:List (Nat×Nat)) (hs:Region.noSelect ops=true) (hB:ordB.ord2 .any ops l listed b=true) (hf:b.length=fuel)
 (h:WO P n ops (λ_=>True) N b L w):WA P n ops l C N listed fuel L w:=λa ha hc c=>by
 subst hf
 exact uI hs hB c hc (h a ha)
end
theorem WC.regt {id:Nat}{ops:Array Oper}(C:World->Prop) (l:Option Nat) (hm:P.follows .mixedOrders=true) (c:C { w with drawn:=w.drawn+1 })
 (h:WA P n ops l C (λa w=>Q .normal a w) (Array.replicate ops.size false) ops.size L { w with drawn:=w.drawn+1 }):WC P n (.region id ops true) Q L w:=λa ha=>by
 refine wp_region_any hm (fS (N:=λa w=>Q .normal a w) (l:=l) (C:=C) (λ_ _ h=>h) _ _ _ _ (h a ha c ?_))
 intro j o _ hl
 exfalso
 rcases Nat.lt_or_ge j ops.size with b | b
 · simp[b]at hl
 · simp[Array.getElem?_eq_none,b]at hl
theorem WC.seq {x y:Code}(h:WC P n x (Exit.then (y.wp P Q) Q) L w):WC P n (.seq x y) Q L w:=λa ha=>wp_seq (h a ha)
theorem WC.skip (h:DN n Q .normal L w):WC P n .skip Q L w:=λa ha=>wp_skip (h a ha)
theorem WC.exit {id:Nat}(h:DN n Q (.exit id) L w):WC P n (.exit id) Q L w:=λa ha=>wp_exit (h a ha)
theorem WC.ret (h:DN n Q .ret L w):WC P n .ret Q L w:=λa ha=>wp_ret (h a ha)
theorem WC.block {id:Nat}{c:Code}(h:WC P n c (Exit.inBlock id Q) L w):WC P n (.block id c) Q L w:=λa ha=>wp_block (h a ha)
theorem WC.ct {c:Operand}{x y:Code}(hc:opd L c=some (.bool true)) (h:WC P n x Q L w):WC P n (.cond c x y) Q L w:=λa ha=>wp_cond_true (ha.eval hc) (h a ha)
theorem WC.cf {c:Operand}{x y:Code}(hc:opd L c=some (.bool false)) (h:WC P n y Q L w):WC P n (.cond c x y) Q L w:=λa ha=>wp_cond_false (ha.eval hc) (h a ha)
theorem DN.seq {y:Code}(h:WC P n y Q L w):DN n (Exit.then (y.wp P Q) Q) .normal L w:=h
theorem DN.exitThen {K:Act->World->Prop}{id:Nat}(h:DN n Q (.exit id) L w):DN n (Exit.then K Q) (.exit id) L w:=h
theorem DN.retThen {K:Act->World->Prop}(h:DN n Q .ret L w):DN n (Exit.then K Q) .ret L w:=h
theorem DN.retBlock {id:Nat}(h:DN n Q .ret L w):DN n (Exit.inBlock id Q) .ret L w:=h
theorem DN.block {id:Nat}(h:DN n Q .normal L w):DN n (Exit.inBlock id Q) .normal L w:=h
theorem DN.hit {id:Nat}(h:DN n Q .normal L w):DN n (Exit.inBlock id Q) (.exit id) L w:=λa ha=>by simp only[Exit.inBlock,if_true];exact h a ha
theorem DN.to {N:Act->World->Prop}{ops:Array Oper}{C:World->Prop}(h:DN n Q .normal L w) (b:∀a w,Q .normal a w->N a w):WO P n ops C N [] L w:=λa ha=>b _ _ (h a ha)
theorem least (p:Nat->Prop) (h:∃k,p k):∃k,p k/\∀j,p j->k<=j:=by
 obtain⟨k,hk⟩:=h
 induction k using Nat.strongRecOn with
 | _ k ih=>
  by_cases hs:∃j,j<k/\p j
  · obtain⟨j,hj,hp⟩:=hs;exact ih j hj hp
  · exact⟨k,hk,λj hp=>Nat.le_of_not_lt λa=>hs ⟨j,a,hp⟩⟩
theorem WC.loop {c:Code}(I:Nat->Env->World->Prop) (h0:∃k L',I k L' w/\∀a,Kn n L a->Kn n L' a)
 (r:∀k L w,I k L w->WC P n c (Exit.then (λb w'=>∃k' L',k'<k/\I k' L' w'/\Kn n L' b) Q) L w):WC P n (.loop c) Q L w:=by
 intro a ha
 obtain⟨q,j,hI,hk⟩:=h0
 classical
 let J:Act->World->Prop:=λa w=>∃k L,I k L w/\Kn n L a
 let s:Act->World->Nat:=λa w=>if h:∃k,∃L,I k L w/\Kn n L a then Classical.choose (least _ h) else 0
 refine wp_loop J s ⟨q,j,hI,hk a ha⟩ ?_
 intro a w o
 have g:∃k,∃L,I k L w/\Kn n L a:=o
 have hs:=Classical.choose_spec (least _ g)
 obtain⟨l,m,hk1⟩:=hs.1
 refine wp_mono (r _ l w m a hk1) ?_
 intro e b w' h
 cases e <;> try exact h
 obtain⟨k',L',p,d,f⟩:=h
 refine⟨⟨k',L',d,f⟩,?_⟩
 have i:∃k,∃L,I k L w'/\Kn n L b:=⟨k',L',d,f⟩
 show(if h:∃k,∃L,I k L w'/\Kn n L b then Classical.choose (least _ h) else 0)<(if h:∃k,∃L,I k L w/\Kn n L a then Classical.choose (least _ h) else 0)
 rw[dif_pos i,dif_pos g]
 exact Nat.lt_of_le_of_lt ((Classical.choose_spec (least _ i)).2 k' ⟨L',d,f⟩) p
end
end Go.Wk
set_option linter.unusedVariables false
set_option linter.unusedSimpArgs false
namespace Go.Wk
open Go
def Rn (P:Program) (n:Nat) (C:World->Prop) (o:Oper) (L:Env) (v:Value):Prop:=∀a w,Kn n L a->C w->(execOp a.eval o).run P w= .ok (.value v) w
section
variable {P:Program}{n:Nat}{C:World->Prop}{o:Oper}{L:Env}
theorem WO.lq {ops:Array Oper}{N:Act->World->Prop}{r:List (Nat×Nat)}{w:World}{i d:Nat}(e:ops[i]? =some o) (c:gd ops L o=some true) (hd:o.dst=some d) (hb:Nat.blt d n=true){v:Value}
 (b:C w) (hr:Rn P n (λx=>x=w) o L v) (k:WO P n ops C N r ((d,v)::L) w):WO P n ops C N ((i,1)::r) L w:=
 WO.l e c hd hb λa ha=>by unfold Runs;rw[hr a w ha rfl];exact⟨b,k⟩
theorem yo {x:Operand}{v:Value}(b:o.op= .move x) (hx:opd L x=some v):Rn P n C o L v:=λa w ha _=>by simp[execOp,b,ha.eval hx]
theorem vS {x:Operand}{v:Value}(b:o.op= .assign x) (hx:opd L x=some v):Rn P n C o L v:=λa w ha _=>by simp[execOp,b,ha.eval hx]
theorem xc {c x y:Operand}{v:Value}(b:o.op= .pick c x y) (hc:opd L c=some (.bool true)) (hx:opd L x=some v):Rn P n C o L v:=λa w ha _=>by
 simp[execOp,b,ha.eval hx,ha.eval hc,asBool]
theorem xb {c x y:Operand}{v:Value}(b:o.op= .pick c x y) (hc:opd L c=some (.bool false)) (hx:opd L y=some v):Rn P n C o L v:=λa w ha _=>by
 simp[execOp,b,ha.eval hx,ha.eval hc,asBool]
theorem zq {x:Operand}{t:TypeId}{b:Bool}(c:o.op= .unOp .not t x) (hx:opd L x=some (.bool b)):Rn P n C o L (.bool (!b)):=λa w ha _=>by
 simp[execOp,c,ha.eval hx,Op.unary]
section ints
variable {x y:Operand}{t t':TypeId}{k:IntKind}{p q:Int}(hx:opd L x=some (.int k p)) (hy:opd L y=some (.int k q))
include hx hy
theorem zd (b:o.op= .binOp .add t x y t'):Rn P n C o L (.int k (k.wrap (p+q))):=λa w ha _=>by simp[execOp,b,ha.eval hx,ha.eval hy,eqGuard,binOp,Op.intArith]
theorem zt (b:o.op= .binOp .sub t x y t'):Rn P n C o L (.int k (k.wrap (p-q))):=λa w ha _=>by simp[execOp,b,ha.eval hx,ha.eval hy,eqGuard,binOp,Op.intArith]
theorem zo (b:o.op= .binOp .mul t x y t'):Rn P n C o L (.int k (k.wrap (p * q))):=λa w ha _=>by simp[execOp,b,ha.eval hx,ha.eval hy,eqGuard,binOp,Op.intArith]
theorem xe (b:o.op= .binOp .quo t x y t') (h0:¬q=0):Rn P n C o L (.int k (k.wrap (p.tdiv q))):=λa w ha _=>by simp[execOp,b,ha.eval hx,ha.eval hy,eqGuard,binOp,Op.intDiv,h0]
theorem rR (b:o.op= .binOp .rem t x y t') (h0:¬q=0):Rn P n C o L (.int k (p.tmod q)):=λa w ha _=>by simp[execOp,b,ha.eval hx,ha.eval hy,eqGuard,binOp,Op.intDiv,h0]
theorem ze (b:o.op= .binOp .and t x y t'):Rn P n C o L (.int k (k.wrap (BitVec.ofInt k.bits p &&& BitVec.ofInt k.bits q).toNat)):=λa w ha _=>by simp[execOp,b,ha.eval hx,ha.eval hy,eqGuard,binOp,Op.intBits]
theorem zQ (b:o.op= .binOp .or t x y t'):Rn P n C o L (.int k (k.wrap (BitVec.ofInt k.bits p ||| BitVec.ofInt k.bits q).toNat)):=λa w ha _=>by simp[execOp,b,ha.eval hx,ha.eval hy,eqGuard,binOp,Op.intBits]
theorem zu (b:o.op= .binOp .xor t x y t'):Rn P n C o L (.int k (k.wrap (BitVec.ofInt k.bits p ^^^ BitVec.ofInt k.bits q).toNat)):=λa w ha _=>by simp[execOp,b,ha.eval hx,ha.eval hy,eqGuard,binOp,Op.intBits]
theorem zn (b:o.op= .binOp .lss t x y t'):Rn P n C o L (.bool (decide (p<q))):=λa w ha _=>by simp[execOp,b,ha.eval hx,ha.eval hy,eqGuard,binOp,Op.intCmp]
theorem zm (b:o.op= .binOp .leq t x y t'):Rn P n C o L (.bool (decide (p<=q))):=λa w ha _=>by simp[execOp,b,ha.eval hx,ha.eval hy,eqGuard,binOp,Op.intCmp]
theorem zi (b:o.op= .binOp .gtr t x y t'):Rn P n C o L (.bool (decide (q<p))):=λa w ha _=>by simp[execOp,b,ha.eval hx,ha.eval hy,eqGuard,binOp,Op.intCmp]
theorem zh (b:o.op= .binOp .geq t x y t'):Rn P n C o L (.bool (decide (q<=p))):=λa w ha _=>by simp[execOp,b,ha.eval hx,ha.eval hy,eqGuard,binOp,Op.intCmp]
theorem zg (b:o.op= .binOp .eql t x y t'):Rn P n C o L (.bool (p==q)):=λa w ha _=>by simp[execOp,b,ha.eval hx,ha.eval hy,eqGuard,binOp,Op.intCmp]
theorem zp (b:o.op= .binOp .neq t x y t'):Rn P n C o L (.bool (p !=q)):=λa w ha _=>by simp[execOp,b,ha.eval hx,ha.eval hy,eqGuard,binOp,Op.intCmp]
end ints
section shifts
variable {x y:Operand}{t t':TypeId}{k k':IntKind}{p q:Int}(hx:opd L x=some (.int k p)) (hy:opd L y=some (.int k' q))
include hx hy
theorem uv (b:o.op= .binOp .shl t x y t') (h0:¬q<0):Rn P n C o L (.int k (k.wrap (p * 2 ^ (min q.toNat k.bits)))):=λa w ha _=>by simp[execOp,b,ha.eval hx,ha.eval hy,eqGuard,binOp,Op.shift,h0]
theorem zr (b:o.op= .binOp .shr t x y t') (h0:¬q<0):Rn P n C o L (.int k (p.fdiv (2 ^ (min q.toNat k.bits)))):=λa w ha _=>by simp[execOp,b,ha.eval hx,ha.eval hy,eqGuard,binOp,Op.shift,h0]
end shifts
theorem ux {t:TypeId}(ht:∀w,(underlying t).run P w= .ok .bool w) (p q:Bool) (w:World):(Op.equal t (.bool p) (.bool q)).run P w= .ok (p==q) w:=by
 unfold Op.equal
 obtain⟨d,hd⟩:∃d,Op.maxDepth=d+1:=⟨9999,rfl⟩
 rw[hd]
 simp only[Op.equalIn,Sem.run_bind,ht,Result.andThen_ok,Sem.run_pure]
section bools
variable {x y:Operand}{t t':TypeId}{p q:Bool}(hx:opd L x=some (.bool p)) (hy:opd L y=some (.bool q)) (ht:∀w,(underlying t).run P w= .ok .bool w)
include hx hy ht
theorem vn (b:o.op= .binOp .neq t x y t'):Rn P n C o L (.bool (p !=q)):=λa w ha _=>by
 simp only[execOp,b,ha.eval hx,ha.eval hy,eqGuard,binOp,Sem.run_bind,Sem.run_pure,Result.andThen_ok,ux ht]
 simp[bne]
end bools
theorem ym {x:Operand}{c b:TypeId}{k k':IntKind}{p:Int}{d:TypeDesc}(hs:∀w,(underlying c).run P w= .ok d w) (hd:∀w,(underlying b).run P w= .ok (.int k') w) (e:o.op= .convert c b x) (hx:opd L x=some (.int k p)):Rn P n C o L (.int k' (k'.wrap p)):=λa w ha _=>by
 simp[execOp,e,ha.eval hx,convert,hs,hd,Conv.intToInt]
def opds (L:Env):List Operand->Option (List Value)
 | []=>some []
 | x::r=>match opd L x,opds L r with
  | some v,some a=>some (v::a)
  | _,_=>none
theorem Kn.evals {a:Act}(h:Kn n L a):∀{l:List Operand}{c:List Value},opds L l=some c->l.toArray.map a.eval=c.toArray:=by
 intro l
 induction l with
 | nil=>intro c b;simp only[opds,Option.some.injEq]at b;subst b;simp
 | cons x r e=>
  intro c b
  simp only[opds]at b
  split at b
  · rename_i v us h1 h2
    simp only[Option.some.injEq]at b
    subst b
    have:=e h2
    simp only[List.map_toArray,List.map_cons]at this ⊢
    have d:List.map a.eval r=us:=by simpa using this
    rw[d,h.eval h1]
  · cases b
theorem zl {x:Operand}{t e:TypeId}{b:Option Addr}{l c:Nat}(ht:∀w,(underlying t).run P w= .ok (.slice e) w) (d:o.op= .call { callee:= .builtin .len,args:= #[x],argTypes:= #[t] })
 (hx:opd L x=some (.slice b l c)):Rn P n C o L (.int .i64 (l:Int)):=λa w ha _=>by
 simp[execOp,d,ha.eval hx,resolve,invoke,builtin,Builtin.len_,ht,goInt]
theorem ur {x:Operand}{i:Nat}{b:Array Value}{v:Value}(c:o.op= .extract x i) (hx:opd L x=some (.tuple b)) (d:b[i]? =some v):Rn P n C o L v:=λa w ha _=>by
 simp[execOp,c,ha.eval hx,Instr.extract,d]
theorem uu {x y:Operand}{t t':TypeId}{k:IntKind}{p q:Int}(b:o.op= .call { callee:= .builtin .max,args:= #[x,y],argTypes:= #[t,t'] }) (hx:opd L x=some (.int k p)) (hy:opd L y=some (.int k q)):
 Rn P n C o L (.int k (if p<q then q else p)):=λa w ha _=>by
 simp[execOp,b,ha.eval hx,ha.eval hy,resolve,invoke,builtin,Builtin.max_,Builtin.max2]
theorem js {fn:Fn}{first captured:List Operand}{c cs:List Value}(d:o.op= .makeFunc fn first.toArray captured.toArray) (hf:opds L first=some c) (hc:opds L captured=some cs) (hn:∃b,fn= .func b):
 Rn P n C o L (.func fn c.toArray cs.toArray):=λa w ha _=>by
 obtain⟨b,rfl⟩:=hn
 have h1:=ha.evals hf
 have h2:=ha.evals hc
 simp[execOp,d,h1,h2,Instr.makeFunc]
theorem rQ {x:Operand}{t:TypeId}{i:Nat}{p:Addr}{b:Array Field}{f:Field}{k:Nat}(ht:∀w,(underlying t).run P w= .ok (.struct b) w) (hf:b[i]? =some f) (hk:∀w,(sizeOf f.type).run P w= .ok (k+1) w)
 (c:o.op= .fieldAddr t x i) (hx:opd L x=some (.pointer (some p))):Rn P n C o L (.pointer (some (p.add f.offset))):=λa w ha _=>by
 simp[execOp,c,ha.eval hx,Instr.fieldAt,ht,hf,Instr.sureAddr,fieldPlace,hk]
theorem yn {x:Operand}{t:TypeId}{p:Addr}{v:Value}(ht:∀w,(isAgg t).run P w= .ok false w) (b:o.op= .load t x) (hx:opd L x=some (.pointer (some p))) (c:∀w,C w->w.cell? p=some v):Rn P n C o L v:=λa w ha hc=>by
 simp[execOp,b,ha.eval hx,Instr.loadAt,Instr.sureAddr,loadVar,ht,c w hc]
theorem ut {x:Operand}{t:TypeId}{p:Addr}{cs:List Value}(ht:∀w,(isAgg t).run P w= .ok true w){k:Nat}(hk:∀w,(sizeOf t).run P w= .ok k w) (b:o.op= .load t x) (hx:opd L x=some (.pointer (some p)))
 (c:∀w,C w->∀j v,cs[j]? =some v->w.cell? (p.add j)=some v) (hl:cs.length=k):Rn P n C o L (.agg cs.toArray):=λa w ha hc=>by
 subst hl
 simp[execOp,b,ha.eval hx,Instr.loadAt,Instr.sureAddr,loadVar,ht,hk,run_loadCells_list w p cs (c w hc)]
end
end Go.Wk
set_option linter.unusedVariables false
set_option linter.unusedSimpArgs false
namespace Go.Wk
open Go
abbrev Col:=Nat->Nat
def nin:List Nat->Nat->Bool
 | [],_=>true
 | a::l,c=>bif Nat.beq a c then false else nin l c
theorem mI {l:List Nat}{c:Nat}:nin l c=false↔c∈l:=by
 induction l with
 | nil=>simp[nin]
 | cons a l b=>
  simp only[nin,List.mem_cons]
  cases e:Nat.beq a c with
  | true=>have:=Nat.eq_of_beq_eq_true e;simp[this]
  | false=>
   have:¬c=a:=λh=>by rw[h,Nat.beq_refl]at e;cases e
   simp[this,b]
theorem dU {l:List Nat}{c:Nat}:nin l c=true↔c∉l:=by
 rw[← mI];cases nin l c <;> simp
def apt:List Nat->List Nat->Bool
 | [],_=>true
 | a::l,X=>bif nin X a then apt l X else false
theorem rj {l X:List Nat}(h:apt l X=true):∀c,c∈l->c∉X:=by
 induction l with
 | nil=>intro c hc;cases hc
 | cons a l b=>
  simp only[apt]at h
  cases e:nin X a with
  | false=>rw[e]at h;cases h
  | true=>
   rw[e]at h
   intro c hc
   rcases List.mem_cons.1 hc with rfl | hc
   · exact dU.1 e
   · exact b h c hc
def Zl (κ:Col) (w:World) (l:List Nat):Nat->Prop:=λb=>b<w.heap.size/\κ b∈l
theorem Zl.mono {κ:Col}{w:World}{l m:List Nat}(h:∀c,c∈l->c∈m){b:Nat}(hb:Zl κ w l b):Zl κ w m b:=⟨hb.1,h _ hb.2⟩
structure Stp (X:List Nat) (κ:Col) (w:World) (κ':Col) (w':World):Prop where
 os:w'.os=w.os
 tape:w'.tape=w.tape
 output:w'.output=w.output
 size:w.heap.size<=w'.heap.size
 keep:∀b,b<w.heap.size->κ b∉X->κ' b=κ b/\w'.heap[b]? =w.heap[b]?
theorem Stp.refl (κ:Col) (w:World):Stp [] κ w κ w:=⟨rfl,rfl,rfl,Nat.le_refl _,λ_ _ _=>⟨rfl,rfl⟩⟩
theorem Stp.tr {X Y:List Nat}{κ κ' c:Col}{w w' a:World}(h:Stp X κ w κ' w') (k:Stp Y κ' w' c a):Stp (X++Y) κ w c a:=
 ⟨k.os.trans h.os,k.tape.trans h.tape,k.output.trans h.output,Nat.le_trans h.size k.size,λb hb hc=>by
  obtain⟨h1,h2⟩:=h.keep b hb (λe=>hc (List.mem_append_left _ e))
  obtain⟨d,f⟩:=k.keep b (Nat.lt_of_lt_of_le hb h.size) (λe=>hc (List.mem_append_right _ (h1 ▸ e)))
  exact⟨d.trans h1,f.trans h2⟩⟩
theorem Zl.st {X:List Nat}{κ κ':Col}{w w':World}{l:List Nat}(s:Stp X κ w κ' w') (h:∀c,c∈l->c∉X):∀b,Zl κ w l b->Zl κ' w' l b/\w'.heap[b]? =w.heap[b]?:=λb ⟨hb,hc⟩=>by
 obtain⟨h1,h2⟩:=s.keep b hb (h _ hc)
 exact⟨⟨Nat.lt_of_lt_of_le hb s.size,h1 ▸ hc⟩,h2⟩
theorem nin2 {X:List Nat}{i:Nat}(h0:nin X 0=true) (hi:nin X i=true):∀c,c∈[0,i]->c∉X:=λc hc=>by
 simp only[List.mem_cons,List.not_mem_nil,or_false]at hc
 rcases hc with rfl | rfl
 · exact dU.1 h0
 · exact dU.1 hi
theorem nin1 {X:List Nat}{i:Nat}(hi:nin X i=true):∀c,c∈[i]->c∉X:=λc hc=>by
 simp only[List.mem_cons,List.not_mem_nil,or_false]at hc
 subst hc;exact dU.1 hi
theorem oR {α:Type}{p:Bool}{x y:α}(h:p=true):(bif p then x else y)=x:=by rw[h];rfl
theorem Stp.ext {κ:Col}{w w':World}(i:Nat) (e:Ext w w'):Stp [] κ w (λb=>bif Nat.blt b w.heap.size then κ b else i) w':=
 ⟨e.os,e.tape,e.output,e.size,λb hb _=>⟨oR (Nat.ble_eq.mpr hb),e.block b hb⟩⟩
theorem Stp.drew {κ:Col}{w:World}:Stp [] κ w κ { w with drawn:=w.drawn+1 }:=⟨rfl,rfl,rfl,Nat.le_refl _,λ_ _ _=>⟨rfl,rfl⟩⟩
def sbs:List Nat->List Nat->Bool
 | [],_=>true
 | a::l,X=>bif nin X a then false else sbs l X
theorem sk {X:List Nat}:∀{l:List Nat},sbs l X=true->∀c,c∈l->c∈X
 | [],_,_,h=>by cases h
 | a::l,h,c,hc=>by
  simp only[sbs]at h
  cases e:nin X a with
  | true=>rw[e]at h;cases h
  | false=>
   rw[e]at h
   rcases List.mem_cons.1 hc with rfl | hc
   · exact mI.1 e
   · exact sk h c hc
theorem Stp.wk {X Y:List Nat}{κ κ':Col}{w w':World}(s:Stp Y κ w κ' w') (h:sbs Y X=true):Stp X κ w κ' w':=⟨s.os,s.tape,s.output,s.size,λb hb hc=>s.keep b hb λhm=>hc (sk h _ hm)⟩
def ren:List (Nat×Nat)->Nat->Nat
 | [],c=>c
 | (a,b)::l,c=>bif Nat.beq a c then b else ren l c
def ks:List (Nat×Nat)->List Nat
 | []=>[]
 | (a,_)::l=>a::ks l
theorem vl {c:Nat}:∀{l:List (Nat×Nat)},c∉ks l->ren l c=c
 | [],_=>rfl
 | (a,b)::l,h=>by
  simp only[ks,List.mem_cons,not_or]at h
  simp only[ren]
  cases e:Nat.beq a c with
  | true=>exact absurd (Nat.eq_of_beq_eq_true e).symm h.1
  | false=>exact vl h.2
theorem Stp.ren {X:List Nat}{κ κ':Col}{w w':World}(s:Stp X κ w κ' w') (l:List (Nat×Nat)) (h:sbs (ks l) X=true):Stp X κ w (λb=>Wk.ren l (κ' b)) w':=⟨s.os,s.tape,s.output,s.size,λb hb hc=>by
 obtain⟨h1,h2⟩:=s.keep b hb hc
 refine⟨?_,h2⟩
 show Wk.ren l (κ' b)=κ b
 rw[h1]
 exact vl λhm=>hc (sk h _ hm)⟩
structure Ent (κ:Col) (w:World) (κ':Col) (w':World):Prop where
 os:w'.os=w.os
 tape:w'.tape=w.tape
 output:w'.output=w.output
 size:w.heap.size<=w'.heap.size
 keep:∀b,b<w.heap.size->κ b<=1->κ' b=κ b/\w'.heap[b]? =w.heap[b]?
theorem Ent.refl (κ:Col) (w:World):Ent κ w κ w:=⟨rfl,rfl,rfl,Nat.le_refl _,λ_ _ _=>⟨rfl,rfl⟩⟩
theorem Ent.stp {X:List Nat}{κ κ' c:Col}{w w' a:World}(h:Ent κ w κ' w') (s:Stp X κ' w' c a) (h0:nin X 0=true:=by exact rfl) (h1:nin X 1=true:=by exact rfl):Ent κ w c a:=
 ⟨s.os.trans h.os,s.tape.trans h.tape,s.output.trans h.output,Nat.le_trans h.size s.size,λb hb hc=>by
  obtain⟨d,f⟩:=h.keep b hb hc
  have g:κ' b∉X:=by
   have:κ' b=0\/κ' b=1:=by omega
   rcases this with e | e <;> rw[e]
   · exact dU.1 h0
   · exact dU.1 h1
  obtain⟨i,j⟩:=s.keep b (Nat.lt_of_lt_of_le hb h.size) g
  exact⟨i.trans d,j.trans f⟩⟩
theorem Ent.map {κ κ':Col}{w w':World}(h:Ent κ w κ' w') (g:Nat->Nat) (h0:g 0=0) (h1:g 1=1):Ent κ w (λb=>g (κ' b)) w':=
 ⟨h.os,h.tape,h.output,h.size,λb hb hc=>by
  obtain⟨a,c⟩:=h.keep b hb hc
  refine⟨?_,c⟩
  show g (κ' b)=κ b
  rw[a]
  have:κ b=0\/κ b=1:=by omega
  rcases this with e | e <;> rw[e] <;> assumption⟩
theorem Ent.toExt {κ':Col}{w w':World}(h:Ent (λ_=>0) w κ' w'):Ext w w':=⟨h.os,h.tape,h.output,h.size,λb hb=>(h.keep b hb (Nat.zero_le _)).2⟩
structure Rp (α:Type) where
 size:Nat
 rel:(Nat->Prop)->World->List Value->α->Prop
 st:∀{S S':Nat->Prop} {w w':World} {cs:List Value} {x:α},(∀b,S b->S' b/\w'.heap[b]? =w.heap[b]?)->rel S w cs x->rel S' w' cs x
 len:∀{S:Nat->Prop} {w:World} {cs:List Value} {x:α},rel S w cs x->cs.length=size
 one:∀{S:Nat->Prop} {w:World} {cs:List Value} {x:α},rel S w cs x->∀v∈cs,v.oneCell'=true
def Rp.int (k:IntKind):Rp Int where
 size:=1
 rel _ _ cs x:=cs=[.int k x]
 st _ h:=h
 len h:=by rw[h];rfl
 one h:=by rw[h];simp[Value.oneCell']
abbrev Rp.i64:Rp Int:=Rp.int .i64
def Rp.bool:Rp Bool where
 size:=1
 rel _ _ cs x:=cs=[.bool x]
 st _ h:=h
 len h:=by rw[h];rfl
 one h:=by rw[h];simp[Value.oneCell']
def Rp.str:Rp ByteArray where
 size:=1
 rel _ _ cs x:=cs=[.string x]
 st _ h:=h
 len h:=by rw[h];rfl
 one h:=by rw[h];simp[Value.oneCell']
def Rp.pair {α β:Type}(A:Rp α) (B:Rp β):Rp (α×β) where
 size:=A.size+B.size
 rel S w cs x:=∃c1 c2,cs=c1++c2/\A.rel S w c1 x.1/\B.rel S w c2 x.2
 st h:=λ⟨c1,c2,e,h1,h2⟩=>⟨c1,c2,e,A.st h h1,B.st h h2⟩
 len:=λ⟨c1,c2,e,h1,h2⟩=>by rw[e,z5,A.len h1,B.len h2]
 one:=λ⟨c1,c2,e,h1,h2⟩ v a=>by
  rw[e]at a
  rcases Ad.1 a with h | h
  · exact A.one h1 v h
  · exact B.one h2 v h
def Rp.iso {α β:Type}(A:Rp α) (f:β->α):Rp β where
 size:=A.size
 rel S w cs x:=A.rel S w cs (f x)
 st h:=A.st h
 len h:=A.len h
 one h:=A.one h
def idx {α:Type}(xs:List α) (i:Int):Option α:=if 0<=i then xs[i.toNat]? else none
theorem c8 {α:Type}{xs:List α}{i:Int}{x:α}(h:idx xs i=some x):0<=i/\i<xs.length/\xs[i.toNat]? =some x:=by
 unfold idx at h
 split at h
 · rename_i h0
   have:=(bK.1 h).1
   exact⟨h0,by omega,h⟩
 · cases h
def Sl {α:Type}(E:Rp α) (S:Nat->Prop) (w:World) (a:Option Addr) (c:Nat) (xs:List α):Prop:=
 xs.length<=c/\c<=maxLen/\((xs=[]/\(a=none->c=0))\/∃b o,a=some ⟨b,o,none⟩/\S b /\
  ∀(i:Nat) x,xs[i]? =some x->∃cs:List Value,(∀(j:Nat) v,cs[j]? =some v->w.cell? ⟨b,o+i * E.size+j,none⟩=some v)/\E.rel S w cs x)
theorem Sl.st {α:Type}{E:Rp α}{S S':Nat->Prop}{w w':World}{a:Option Addr}{c:Nat}{xs:List α}(h:∀b,S b->S' b/\w'.heap[b]? =w.heap[b]?) (hs:Sl E S w a c xs):Sl E S' w' a c xs:=by
 obtain⟨h1,h2,d⟩:=hs
 refine⟨h1,h2,d.imp id λ⟨b,o,e,hb,hc⟩=>⟨b,o,e,(h b hb).1,λi x hx=>?_⟩⟩
 obtain⟨cs,f,g⟩:=hc i x hx
 exact⟨cs,λj v k=>by rw[World.cell?_of_block (w:=w) (h b hb).2];exact f j v k,E.st h g⟩
theorem Sl.nil {α:Type}{E:Rp α}{S:Nat->Prop}{w:World}:Sl E S w none 0 []:=⟨by simp,by simp,.inl ⟨rfl,λ_=>rfl⟩⟩
theorem Sl.len_le {α:Type}{E:Rp α}{S:Nat->Prop}{w:World}{a:Option Addr}{c:Nat}{xs:List α}(h:Sl E S w a c xs):(xs.length:Int)<=9223372036854775807:=by
 have h1:=h.1
 have h2:=h.2.1
 unfold maxLen at h2
 omega
def Rp.sl {α:Type}(E:Rp α):Rp (List α) where
 size:=1
 rel S w cs xs:=∃a c,cs=[.slice a xs.length c]/\Sl E S w a c xs
 st h:=λ⟨a,c,e,hs⟩=>⟨a,c,e,hs.st h⟩
 len:=λ⟨_,_,e,_⟩=>by rw[e];rfl
 one:=λ⟨_,_,e,_⟩=>by rw[e];simp[Value.oneCell']
def aAt (a:Option Addr) (k:Nat):Addr:=match a with
 | some p=>p.add k
 | none=>⟨0,0,none⟩
theorem addb (b o j:Nat):(⟨b,o,none⟩:Addr).add j=⟨b,o+j,none⟩:=by unfold Addr.add;split <;> simp_all
theorem Addr.add_add (b o j k:Nat):((⟨b,o,none⟩:Addr).add j).add k=⟨b,o+j+k,none⟩:=by rw[addb,addb]
theorem Sl.base {α:Type}{E:Rp α}{S:Nat->Prop}{w:World}{a:Option Addr}{c:Nat}{xs:List α}(hs:Sl E S w a c xs){i:Int}{x:α}(h:idx xs i=some x):0<=i/\i<xs.length/\∃p,a=some p:=by
 obtain⟨h0,h1,h2⟩:=c8 h
 refine⟨h0,h1,?_⟩
 rcases hs.2.2 with ⟨e,_⟩ | ⟨b,o,e,_⟩
 · subst e;simp at h1;omega
 · exact⟨_,e⟩
theorem Sl.get {α:Type}{E:Rp α}{S:Nat->Prop}{w:World}{a:Option Addr}{c:Nat}{xs:List α}(hs:Sl E S w a c xs){i:Int}{x:α}(h:idx xs i=some x):
 ∃cs:List Value,E.rel S w cs x/\∀w':World,(∀b,S b->w'.heap[b]? =w.heap[b]?)->∀(j:Nat) v,cs[j]? =some v->w'.cell? ((aAt a (i.toNat * E.size)).add j)=some v:=by
 obtain⟨h0,h1,h2⟩:=c8 h
 rcases hs.2.2 with ⟨e,_⟩ | ⟨b,o,e,hb,hc⟩
 · subst e;simp at h1;omega
 · obtain⟨cs,d,f⟩:=hc _ _ h2
   refine⟨cs,f,λw' k j v g=>?_⟩
   subst e
   simp only[aAt]
   rw[Addr.add_add,World.cell?_of_block (w:=w) (k b hb)]
   exact d j v g
abbrev Rd {α:Type}(E:Rp α) (κ:Col) (w:World) (i:Nat) (a:Option Addr) (c:Nat) (xs:List α):Prop:=Sl E (Zl κ w [0,i]) w a c xs
theorem Sl.stp {α:Type}{E:Rp α}{X:List Nat}{κ κ':Col}{w w':World}{i:Nat}{a:Option Addr}{c:Nat}{xs:List α}(h:Rd E κ w i a c xs) (s:Stp X κ w κ' w') (h0:nin X 0=true:=by exact rfl) (b:nin X i=true:=by exact rfl):Rd E κ' w' i a c xs:=
 Sl.st (Zl.st s (nin2 h0 b)) h
theorem Zl.map {κ:Col}{w:World}{l m:List Nat}(g:Nat->Nat) (h:∀c,c∈l->g c∈m):∀b,Zl κ w l b->Zl (λb=>g (κ b)) w m b/\w.heap[b]? =w.heap[b]?:=λb hb=>⟨⟨hb.1,h _ hb.2⟩,rfl⟩
theorem Sl.z1 {α:Type}{E:Rp α}{κ:Col}{w:World}{a:Option Addr}{c:Nat}{xs:List α}(h:Rd E κ w 0 a c xs):Sl E (Zl κ w [0]) w a c xs:=Sl.st (λb hb=>⟨Zl.mono (by simp) hb,rfl⟩) h
theorem Zl.sp {κ:Col}{w:World}{l1 l2:List Nat}(h:apt l1 l2=true):∀b,Zl κ w l1 b->Zl κ w (l1++l2) b/\¬Zl κ w l2 b:=λb hb=>⟨Zl.mono (λc hc=>List.mem_append_left _ hc) hb,λh2=>rj h _ hb.2 h2.2⟩
theorem Zl.sr {κ:Col}{w:World}{l1 l2:List Nat}:∀b,Zl κ w l2 b->Zl κ w (l1++l2) b:=λb hb=>Zl.mono (λc hc=>List.mem_append_right _ hc) hb
theorem map2 {g:Nat->Nat}{i j:Nat}(h0:g 0=0) (hi:g i=j):∀c,c∈[0,i]->g c∈[0,j]:=λc hc=>by
 simp only[List.mem_cons,List.not_mem_nil,or_false]at hc ⊢
 rcases hc with rfl | rfl
 · exact .inl h0
 · exact .inr hi
theorem map1 {g:Nat->Nat}{i j:Nat}(hi:g i=j):∀c,c∈[i]->g c∈[j]:=λc hc=>by
 simp only[List.mem_cons,List.not_mem_nil,or_false]at hc ⊢
 subst hc;exact hi
theorem Sl.map {α:Type}{E:Rp α}{κ:Col}{w:World}{i j:Nat}{a:Option Addr}{c:Nat}{xs:List α}(h:Rd E κ w i a c xs) (g:Nat->Nat) (h0:g 0=0) (hi:g i=j):Rd E (λb=>g (κ b)) w j a c xs:=
 Sl.st (Zl.map g (map2 h0 hi)) h
def Ag (l:List Nat) (κ:Col) (w w':World):Prop:=∀b,Zl κ w l b->w'.heap[b]? =w.heap[b]?
def Cl (N:List Nat) (κ:Col) (w w':World):Prop:=∀b,b<w.heap.size->κ b∈N->w'.heap[b]? =w.heap[b]?
def lle:List Nat->List Nat->Bool
 | [],_=>true
 | a::l,N=>bif nin N a then false else lle l N
theorem rI {N:List Nat}:∀{l:List Nat},lle l N=true->∀c,c∈l->c∈N
 | [],_,_,h=>by cases h
 | a::l,h,c,hc=>by
  simp only[lle]at h
  cases e:nin N a with
  | true=>rw[e]at h;cases h
  | false=>
   rw[e]at h
   rcases List.mem_cons.1 hc with rfl | hc
   · exact mI.1 e
   · exact rI h c hc
def lgt:List Nat->List Nat->Bool
 | [],_=>true
 | a::l,N=>bif nin N a then lgt l N else false
theorem rH {N:List Nat}:∀{l:List Nat},lgt l N=true->∀c,c∈l->c∉N
 | [],_,_,h=>by cases h
 | a::l,h,c,hc=>by
  simp only[lgt]at h
  cases e:nin N a with
  | false=>rw[e]at h;cases h
  | true=>
   rw[e]at h
   rcases List.mem_cons.1 hc with rfl | hc
   · exact dU.1 e
   · exact rH h c hc
theorem Cl.refl (N:List Nat) (κ:Col) (w:World):Cl N κ w w:=λ_ _ _=>rfl
theorem Stp.cl {X:List Nat}{κ κ':Col}{w w':World}{N:List Nat}(s:Stp X κ w κ' w') (h:lgt X N=true):Cl N κ w w':=λb hb hc=>(s.keep b hb λhm=>rH h _ hm hc).2
structure Gst (q:Nat) (κ:Col) (w:World) (κ':Col) (w':World):Prop where
 size:w.heap.size<=w'.heap.size
 mem:∀b,b<w.heap.size->w'.heap[b]? =w.heap[b]?
 col:∀b,b<w.heap.size->κ' b=κ b\/κ' b=q
structure Ol (N:List Nat) (es:List Nat) (κ0:Col) (w0:World) (κ:Col) (w:World):Prop where
 all:∀b,b<w0.heap.size->κ0 b∈N->b<w.heap.size/\(κ b∈N\/κ b∈es)/\w.heap[b]? =w0.heap[b]?
theorem Ol.refl (N:List Nat) (κ:Col) (w:World):Ol N [] κ w κ w:=⟨λb hb hc=>⟨hb,.inl hc,rfl⟩⟩
theorem Ol.stp {N:List Nat}{a X:List Nat}{d κ κ':Col}{c w w':World}(h:Ol N a d c κ w) (s:Stp X κ w κ' w') (i:lgt X N=true) (j:apt a X=true):Ol N a d c κ' w':=⟨λb hb hc=>by
 obtain⟨h1,h2,e⟩:=h.all b hb hc
 obtain⟨f,g⟩:=s.keep b h1 λhm=>by
  rcases h2 with h2 | h2
  · exact rH i _ hm h2
  · exact rj j _ h2 hm
 exact⟨Nat.lt_of_lt_of_le h1 s.size,f ▸ h2,g.trans e⟩⟩
theorem Ol.cl {N:List Nat}{d:List Nat}{c κ:Col}{a w:World}(h:Ol N d c a κ w):Cl N c a w:=λb hb hc=>(h.all b hb hc).2.2
theorem hvC {l:List Nat}{κ:Col}{w:World}{N:List Nat}{p:Addr}{v:Value}(h:∀w',Ag l κ w w'->w'.cell? p=some v) (hl:lle l N=true):∀w',Cl N κ w w'->w'.cell? p=some v:=λw' a=>h w' λb hb=>a b hb.1 (rI hl _ hb.2)
theorem hvE {l:List Nat}{κ:Col}{w:World}{p:Addr}{v:Value}(h:∀w',Ag l κ w w'->w'.cell? p=some v):∀w',w'=w->w'.cell? p=some v:=λw' a=>h w' λb hb=>by rw[a]
theorem haC {l:List Nat}{κ:Col}{w:World}{N:List Nat}{p:Addr}{cs:List Value}(h:∀w',Ag l κ w w'->∀(j:Nat) v,cs[j]? =some v->w'.cell? (p.add j)=some v) (hl:lle l N=true):∀w',Cl N κ w w'->∀(j:Nat) v,cs[j]? =some v->w'.cell? (p.add j)=some v:=λw' a=>h w' λb hb=>a b hb.1 (rI hl _ hb.2)
theorem haE {l:List Nat}{κ:Col}{w:World}{p:Addr}{cs:List Value}(h:∀w',Ag l κ w w'->∀(j:Nat) v,cs[j]? =some v->w'.cell? (p.add j)=some v):∀w',w'=w->∀(j:Nat) v,cs[j]? =some v->w'.cell? (p.add j)=some v:=λw' a=>h w' λb hb=>by rw[a]
section
variable {κ:Col}{w:World}{q:Nat}{a:Option Addr}{c:Nat}{i:Int}
theorem Sl.gInt {k:IntKind}{xs:List Int}{x:Int}(hs:Rd (Rp.int k) κ w q a c xs) (h:idx xs i=some x):∀w',Ag [0,q] κ w w'->w'.cell? (aAt a (i.toNat * 1))=some (.int k x):=by
 obtain⟨cs,h1,h2⟩:=hs.get h
 have h1:cs=[.int k x]:=h1
 subst h1
 intro w' b
 exact h2 w' b 0 _ rfl
theorem Sl.gBool {xs:List Bool}{x:Bool}(hs:Rd Rp.bool κ w q a c xs) (h:idx xs i=some x):∀w',Ag [0,q] κ w w'->w'.cell? (aAt a (i.toNat * 1))=some (.bool x):=by
 obtain⟨cs,h1,h2⟩:=hs.get h
 have h1:cs=[.bool x]:=h1
 subst h1
 intro w' b
 exact h2 w' b 0 _ rfl
theorem Sl.gSl {α:Type}{E:Rp α}{xs:List (List α)}{x:List α}(hs:Rd (Rp.sl E) κ w q a c xs) (h:idx xs i=some x):
 ∃b d,Rd E κ w q b d x/\∀w',Ag [0,q] κ w w'->w'.cell? (aAt a (i.toNat * 1))=some (.slice b x.length d):=by
 obtain⟨cs,⟨b,d,e,h1⟩,h2⟩:=hs.get h
 subst e
 exact⟨b,d,h1,λw' f=>h2 w' f 0 _ rfl⟩
theorem Sl.gSt {α:Type}{E:Rp α}{xs:List α}{x:α}(hs:Rd E κ w q a c xs) (h:idx xs i=some x):
 ∃cs:List Value,E.rel (Zl κ w [0,q]) w cs x/\∀w',Ag [0,q] κ w w'->∀(j:Nat) v,cs[j]? =some v->w'.cell? ((aAt a (i.toNat * E.size)).add j)=some v:=hs.get h
end
structure Ep (α:Type) where
 size:Nat
 rel:(Nat->Prop)->(Nat->Prop)->World->List Value->α->Prop
 st:∀{F F' S S':Nat->Prop} {w w':World} {cs:List Value} {x:α},(∀b,F b->F' b/\w'.heap[b]? =w.heap[b]?)->(∀b,S b->S' b/\w'.heap[b]? =w.heap[b]?)->rel F S w cs x->rel F' S' w' cs x
 len:∀{F S:Nat->Prop} {w:World} {cs:List Value} {x:α},rel F S w cs x->cs.length=size
 one:∀{F S:Nat->Prop} {w:World} {cs:List Value} {x:α},rel F S w cs x->∀v∈cs,v.oneCell'=true
 rp:Rp α
 rps:rp.size=size
 rd:∀{F S G:Nat->Prop} {w:World} {cs:List Value} {x:α},(∀b,F b->G b)->(∀b,S b->G b)->rel F S w cs x->rp.rel G w cs x
def Ep.fz {α:Type}(E:Rp α):Ep α where
 size:=E.size
 rel F _ w cs x:=E.rel F w cs x
 st hF _ h:=E.st hF h
 len h:=E.len h
 one h:=E.one h
 rp:=E
 rps:=rfl
 rd hF _ h:=E.st (λb hb=>⟨hF b hb,rfl⟩) h
def Ep.int (k:IntKind):Ep Int:=Ep.fz (Rp.int k)
def Ep.bool:Ep Bool:=Ep.fz Rp.bool
def Ep.str:Ep ByteArray:=Ep.fz Rp.str
def Ep.pair {α β:Type}(A:Ep α) (B:Ep β):Ep (α×β) where
 size:=A.size+B.size
 rel F S w cs x:=∃c1 c2,∃c a:Nat->Prop,cs=c1++c2/\(∀b,c b->S b/\¬a b)/\(∀b,a b->S b)/\A.rel F c w c1 x.1/\B.rel F a w c2 x.2
 st hF hS:=λ⟨c1,c2,c,a,e,d,f,h1,h2⟩=>⟨c1,c2,c,a,e,λb hb=>⟨(hS b (d b hb).1).1,(d b hb).2⟩,λb hb=>(hS b (f b hb)).1,A.st hF (λb hb=>⟨hb,(hS b (d b hb).1).2⟩) h1,B.st hF (λb hb=>⟨hb,(hS b (f b hb)).2⟩) h2⟩
 len:=λ⟨c1,c2,_,_,e,_,_,h1,h2⟩=>by rw[e,z5,A.len h1,B.len h2]
 one:=λ⟨c1,c2,_,_,e,_,_,h1,h2⟩ v g=>by
  rw[e]at g
  rcases Ad.1 g with h | h
  · exact A.one h1 v h
  · exact B.one h2 v h
 rp:=Rp.pair A.rp B.rp
 rps:=by show A.rp.size+B.rp.size=_;rw[A.rps,B.rps]
 rd hF hS:=λ⟨c1,c2,c,a,e,d,f,h1,h2⟩=>⟨c1,c2,e,A.rd hF (λb hb=>hS b (d b hb).1) h1,B.rd hF (λb hb=>hS b (f b hb)) h2⟩
def Ep.iso {α β:Type}(A:Ep α) (f:β->α):Ep β where
 size:=A.size
 rel F S w cs x:=A.rel F S w cs (f x)
 st hF hS h:=A.st hF hS h
 len h:=A.len h
 one h:=A.one h
 rp:=Rp.iso A.rp f
 rps:=A.rps
 rd hF hS h:=A.rd hF hS h
def nb (a:Option Addr):Nat:=match a with
 | some p=>p.block+1
 | none=>0
def OwR (w:World) (T:TypeId) (k:Nat) (a:Option Addr) (n c:Nat) (cells:List Value):Prop:=
 cells.length=n * k/\((a=none/\n=0/\c=0)\/∃g o b,a=some ⟨g,o,none⟩/\w.heap[g]? =some (.cells b T (0,0))/\n<=c/\c<=maxLen/\o+c * k<=b.size/\(b.toList.drop o).take (n * k)=cells)
theorem OwR.lt {w:World}{T:TypeId}{k:Nat}{a:Option Addr}{n c:Nat}{cells:List Value}(h:OwR w T k a n c cells){b:Nat}(hb:b+1=nb a):b<w.heap.size:=by
 rcases h.2 with ⟨e,_⟩ | ⟨g,o,f,e,d,_⟩
 · rw[e]at hb;cases hb
 · rw[e]at hb
   have:b=g:=by simpa [nb] using hb
   rw[this]
   exact(Array.getElem?_eq_some_iff.1 d).1
theorem OwR.same {w w':World}{T:TypeId}{k:Nat}{a:Option Addr}{n c:Nat}{cells:List Value}(h:OwR w T k a n c cells) (hb:∀b,b+1=nb a->w'.heap[b]? =w.heap[b]?):OwR w' T k a n c cells:=by
 refine⟨h.1,h.2.imp id λ⟨g,o,d,e,f,r⟩=>⟨g,o,d,e,?_,r⟩⟩
 rw[hb g (by rw[e];rfl)];exact f
def LstO {α:Type}(E:Ep α) (F:Nat->Prop) (w:World):(Nat->Prop)->List Value->List α->Prop
 | _,cells,[]=>cells=[]
 | S,cells,x::r=>∃c1 c2,∃c a:Nat->Prop,cells=c1++c2/\(∀b,c b->S b/\¬a b)/\(∀b,a b->S b)/\E.rel F c w c1 x/\LstO E F w a c2 r
section
variable {α:Type}{E:Ep α}{F F':Nat->Prop}{w w':World}
theorem LstO.st (a:∀b,F b->F' b/\w'.heap[b]? =w.heap[b]?):∀{xs:List α}{S S':Nat->Prop}{cells:List Value},(∀b,S b->S' b/\w'.heap[b]? =w.heap[b]?)->LstO E F w S cells xs->LstO E F' w' S' cells xs
 | [],_,_,_,_,hl=>hl
 | _::_,S,S',_,hS,⟨c1,c2,S1,S2,e,s1,s2,h1,h2⟩=>⟨c1,c2,S1,S2,e,λb hb=>⟨(hS b (s1 b hb).1).1,(s1 b hb).2⟩,λb hb=>(hS b (s2 b hb)).1,
  E.st a (λb hb=>⟨hb,(hS b (s1 b hb).1).2⟩) h1,LstO.st a (λb hb=>⟨hb,(hS b (s2 b hb)).2⟩) h2⟩
theorem LstO.len:∀{xs:List α}{S:Nat->Prop}{cells:List Value},LstO E F w S cells xs->cells.length=xs.length * E.size
 | [],_,_,hl=>by rw[hl];simp
 | x::r,_,_,⟨c1,c2,_,_,e,_,_,h1,h2⟩=>by rw[e,z5,E.len h1,h2.len,z8,Nat.add_mul,Nat.one_mul,Nat.add_comm]
theorem LstO.one:∀{xs:List α}{S:Nat->Prop}{cells:List Value},LstO E F w S cells xs->∀v∈cells,v.oneCell'=true
 | [],_,_,hl,v,hv=>by rw[hl]at hv;cases hv
 | x::r,_,_,⟨c1,c2,_,_,e,_,_,h1,h2⟩,v,hv=>by
  rw[e]at hv
  rcases Ad.1 hv with h | h
  · exact E.one h1 v h
  · exact h2.one v h
theorem LstO.append {ys:List α}{Sy:Nat->Prop}{c2:List Value}(h2:LstO E F w Sy c2 ys):∀{xs:List α}{Sx S:Nat->Prop}{c1:List Value},(∀b,Sx b->S b/\¬Sy b)->(∀b,Sy b->S b)->LstO E F w Sx c1 xs->LstO E F w S (c1++c2) (xs++ys)
 | [],_,_,_,hx,hy,hl=>by rw[hl];exact LstO.st (λb hb=>⟨hb,rfl⟩) (λb hb=>⟨hy b hb,rfl⟩) h2
 | x::r,Sx,S,_,hx,hy,⟨d1,d2,S1,S2,e,s1,s2,h1,h3⟩=>⟨d1,d2++c2,S1,λb=>S2 b\/Sy b,by rw[e,List.append_assoc],λb hb=>⟨(hx b (s1 b hb).1).1,λh=>h.elim (s1 b hb).2 (hx b (s1 b hb).1).2⟩,
  λb hb=>hb.elim (λh=>(hx b (s2 b h)).1) (hy b),h1,LstO.append h2 (λb hb=>⟨.inl hb,(hx b (s2 b hb)).2⟩) (λb hb=> .inr hb) h3⟩
theorem LstO.get:∀{xs:List α}{S:Nat->Prop}{cells:List Value},LstO E F w S cells xs->∀(i:Nat) x,xs[i]? =some x->∃cs:List Value,(∀(j:Nat) v,cs[j]? =some v->cells[i * E.size+j]? =some v)/\E.rel F S w cs x
 | [],_,_,_,i,x,h=>by simp at h
 | y::r,S,_,⟨c1,c2,S1,S2,e,s1,s2,h1,h2⟩,0,x,h=>by
  simp only[List.getElem?_cons_zero,Option.some.injEq]at h
  subst h
  refine⟨c1,λj v a=>?_,E.st (λb hb=>⟨hb,rfl⟩) (λb hb=>⟨(s1 b hb).1,rfl⟩) h1⟩
  rw[e,Nat.zero_mul,Nat.zero_add,List.getElem?_append_left (bK.1 a).1]
  exact a
 | y::r,S,_,⟨c1,c2,S1,S2,e,s1,s2,h1,h2⟩,i+1,x,h=>by
  obtain⟨cs,c,d⟩:=h2.get i x (by simpa using h)
  refine⟨cs,λj v a=>?_,E.st (λb hb=>⟨hb,rfl⟩) (λb hb=>⟨s2 b hb,rfl⟩) d⟩
  have hl:=E.len h1
  rw[e,List.getElem?_append_right (by rw[hl,Nat.add_mul];omega),hl,show(i+1) * E.size+j-E.size=i * E.size+j from by rw[Nat.add_mul];omega]
  exact c j v a
theorem LstO.set {y:α}{cs:List Value}{Sy:Nat->Prop}(hy:E.rel F Sy w cs y):∀{xs:List α}{S S':Nat->Prop}{cells:List Value},(∀b,S b->S' b/\¬Sy b)->(∀b,Sy b->S' b)->LstO E F w S cells xs->∀(i:Nat),i<xs.length ->
 LstO E F w S' (cells.take (i * E.size)++cs++cells.drop (i * E.size+E.size)) (xs.set i y)
 | [],_,_,_,_,_,_,i,h=>by simp at h
 | x::r,S,S',_,hs,hsy,⟨c1,c2,S1,S2,e,s1,s2,h1,h2⟩,0,_=>by
  have hl:=E.len h1
  refine⟨cs,c2,Sy,S2,?_,λb hb=>⟨hsy b hb,λh=>(hs b (s2 b h)).2 hb⟩,λb hb=>(hs b (s2 b hb)).1,hy,h2⟩
  rw[e]
  simp[← hl]
 | x::r,S,S',_,hs,hsy,⟨c1,c2,S1,S2,e,s1,s2,h1,h2⟩,i+1,h=>by
  have hl:=E.len h1
  refine⟨c1,_,S1,λb=>S2 b\/Sy b,?_,λb hb=>⟨(hs b (s1 b hb).1).1,λh=>h.elim (s1 b hb).2 (hs b (s1 b hb).1).2⟩,λb hb=>hb.elim (λh=>(hs b (s2 b h)).1) (hsy b),h1,
   h2.set hy (S':=λb=>S2 b\/Sy b) (λb hb=>⟨.inl hb,(hs b (s2 b hb)).2⟩) (λb hb=> .inr hb) i (by simpa using h)⟩
  rw[e,show(i+1) * E.size=c1.length+i * E.size from by rw[hl,Nat.add_mul];omega,List.take_append,List.take_of_length_le (by omega),show c1.length+i * E.size-c1.length=i * E.size from by omega,
   show c1.length+i * E.size+E.size=c1.length+(i * E.size+E.size) from by omega,List.drop_append,List.drop_of_length_le (l:=c1) (by omega)]
  simp[List.append_assoc]
theorem LstO.drop:∀(n:Nat){xs:List α}{S:Nat->Prop}{cells:List Value},LstO E F w S cells xs->LstO E F w S (cells.drop (n * E.size)) (xs.drop n)
 | 0,_,_,_,h=>by simpa using h
 | n+1,[],_,_,h=>by
  have h:_=[]:=h
  rw[h];simp;rfl
 | n+1,x::r,S,_,⟨c1,c2,S1,S2,e,s1,s2,h1,h2⟩=>by
  have hl:=E.len h1
  rw[e,show(n+1) * E.size=c1.length+n * E.size from by rw[hl,Nat.add_mul];omega,List.drop_append,List.drop_of_length_le (l:=c1) (by omega),List.nil_append,show c1.length+n * E.size-c1.length=n * E.size from by omega,List.drop_succ_cons]
  exact LstO.st (λb hb=>⟨hb,rfl⟩) (λb hb=>⟨s2 b hb,rfl⟩) (h2.drop n)
theorem LstO.take:∀(n:Nat){xs:List α}{S:Nat->Prop}{cells:List Value},LstO E F w S cells xs->LstO E F w S (cells.take (n * E.size)) (xs.take n)
 | 0,_,_,_,h=>by simp[LstO]
 | n+1,[],_,_,h=>by
  have h:_=[]:=h
  rw[h];simp;rfl
 | n+1,x::r,S,_,⟨c1,c2,S1,S2,e,s1,s2,h1,h2⟩=>by
  have hl:=E.len h1
  rw[e,show(n+1) * E.size=c1.length+n * E.size from by rw[hl,Nat.add_mul];omega,List.take_append,List.take_of_length_le (l:=c1) (by omega),show c1.length+n * E.size-c1.length=n * E.size from by omega,List.take_succ_cons]
  exact⟨c1,_,S1,S2,rfl,s1,s2,h1,h2.take n⟩
theorem LstO.replicate {z:α}{a:List Value}{S:Nat->Prop}(b:E.rel F (λ_=>False) w a z):∀n,LstO E F w S (List.replicate n a).flatten (List.replicate n z)
 | 0=>by simp[LstO]
 | n+1=>⟨a,_,λ_=>False,S,by simp[List.replicate_succ],λ_ h=>h.elim,λ_ h=>h,b,LstO.replicate b n⟩
end
def Ow {α:Type}(E:Ep α) (T:TypeId) (F S:Nat->Prop) (w:World) (a:Option Addr) (c:Nat) (xs:List α):Prop:=
 ∃d,OwR w T E.size a xs.length c d/\(∀b,b+1=nb a->S b)/\LstO E F w (λb=>S b/\b+1≠nb a) d xs
section
variable {α:Type}{E:Ep α}{T:TypeId}{F F' S S':Nat->Prop}{w w':World}{a:Option Addr}{c:Nat}{xs:List α}
theorem Ow.st (g:∀b,F b->F' b/\w'.heap[b]? =w.heap[b]?) (d:∀b,S b->S' b/\w'.heap[b]? =w.heap[b]?) (h:Ow E T F S w a c xs):Ow E T F' S' w' a c xs:=by
 obtain⟨e,h1,h2,f⟩:=h
 exact⟨e,h1.same λb hb=>(d b (h2 b hb)).2,λb hb=>(d b (h2 b hb)).1,f.st g λb hb=>⟨⟨(d b hb.1).1,hb.2⟩,(d b hb.1).2⟩⟩
theorem Ow.nil:Ow E T F S w none 0 ([]:List α):=⟨[],⟨by simp,.inl ⟨rfl,rfl,rfl⟩⟩,λb hb=>by simp[nb]at hb,rfl⟩
theorem Ow.rd {G:Nat->Prop}(n:∀b,F b->G b) (e:∀b,S b->G b) (h:Ow E T F S w a c xs):Sl E.rp G w a c xs:=by
 obtain⟨t,h1,h2,k⟩:=h
 rcases h1.2 with ⟨rfl,hn,rfl⟩ | ⟨g,o,f,rfl,p,q,hc,u,r⟩
 · exact⟨by omega,by simp,.inl ⟨List.eq_nil_of_length_eq_zero hn,λ_=>rfl⟩⟩
 · refine⟨q,hc,.inr ⟨g,o,rfl,e g (h2 g rfl),λi x hx=>?_⟩⟩
   obtain⟨cs,l,m⟩:=k.get i x hx
   refine⟨cs,λj v s=>?_,E.rd n (λb hb=>e b hb.1) m⟩
   have d:=l j v s
   rw[← r,List.getElem?_take]at d
   split at d
   · rw[cell_of_row w g _ f T (0,0) p,E.rps]
     rw[List.getElem?_drop]at d
     simpa [Nat.add_assoc] using d
   · cases d
end
def Ep.own {α:Type}(E:Ep α) (T:TypeId):Ep (List α) where
 size:=1
 rel F S w cs x:=∃a c,cs=[.slice a x.length c]/\Ow E T F S w a c x
 st hF hS:=λ⟨a,c,e,h⟩=>⟨a,c,e,h.st hF hS⟩
 len:=λ⟨_,_,e,_⟩=>by rw[e];rfl
 one:=λ⟨_,_,e,_⟩=>by rw[e];simp[Value.oneCell']
 rp:=Rp.sl E.rp
 rps:=rfl
 rd hF hS:=λ⟨a,c,e,h⟩=>⟨a,c,e,h.rd hF hS⟩
def Ep.Pu {α:Type}(E:Ep α):Prop:=∀{G F S:Nat->Prop}{w w':World}{cs:List Value}{x:α},E.rp.rel G w cs x->E.rel F S w' cs x
theorem co (k:IntKind):(Ep.int k).Pu:=λh=>h
theorem yg:Ep.bool.Pu:=λh=>h
theorem vk {α β:Type}{A:Ep α}{B:Ep β}(a:A.Pu) (hB:B.Pu):(Ep.pair A B).Pu:=λ⟨c1,c2,e,h1,h2⟩=>⟨c1,c2,λ_=>False,λ_=>False,e,λ_ h=>h.elim,λ_ h=>h.elim,a h1,hB h2⟩
def Ep.No {α:Type}(E:Ep α):Prop:=∀{F F' S:Nat->Prop}{w:World}{cs:List Value}{x:α},E.rel F S w cs x->E.rel F' S w cs x
theorem bX (k:IntKind):(Ep.int k).No:=λh=>h
theorem dV:Ep.bool.No:=λh=>h
theorem rM {α β:Type}{A:Ep α}{B:Ep β}(c:A.No) (hB:B.No):(Ep.pair A B).No:=λ⟨c1,c2,a,b,e,d,f,h1,h2⟩=>⟨c1,c2,a,b,e,d,f,c h1,hB h2⟩
theorem wS {α β:Type}{A:Ep α}(f:β->α) (a:A.No):(Ep.iso A f).No:=λh=>a h
theorem LstO.no {α:Type}{E:Ep α}(hE:E.No){F F':Nat->Prop}{w:World}:∀{xs:List α}{S:Nat->Prop}{cells:List Value},LstO E F w S cells xs->LstO E F' w S cells xs
 | [],_,_,h=>h
 | _::_,_,_,⟨c1,c2,S1,S2,e,s1,s2,h1,h2⟩=>⟨c1,c2,S1,S2,e,s1,s2,hE h1,h2.no hE⟩
theorem Ow.no {α:Type}{E:Ep α}(hE:E.No){T:TypeId}{F F' S:Nat->Prop}{w:World}{a:Option Addr}{c:Nat}{xs:List α}(h:Ow E T F S w a c xs):Ow E T F' S w a c xs:=by
 obtain⟨b,h1,h2,d⟩:=h
 exact⟨b,h1,h2,d.no hE⟩
theorem cD {α:Type}{E:Ep α}(hE:E.No) (T:TypeId):(Ep.own E T).No:=λ⟨a,c,e,h⟩=>⟨a,c,e,h.no hE⟩
abbrev Oc {α:Type}(E:Ep α) (T:TypeId) (κ:Col) (w:World) (i:Nat) (a:Option Addr) (c:Nat) (xs:List α):Prop:=Ow E T (Zl κ w [0]) (Zl κ w [i]) w a c xs
section
variable {α:Type}{E:Ep α}{T:TypeId}{X:List Nat}{κ κ':Col}{w w':World}{i j:Nat}{a:Option Addr}{c:Nat}{xs:List α}
theorem Ow.stp (h:Oc E T κ w i a c xs) (s:Stp X κ w κ' w') (h0:nin X 0=true:=by exact rfl) (b:nin X i=true:=by exact rfl):Oc E T κ' w' i a c xs:=h.st (Zl.st s (nin1 h0)) (Zl.st s (nin1 b))
theorem Ow.rdc (h:Oc E T κ w i a c xs):Rd E.rp κ w i a c xs:=h.rd (λb hb=>Zl.mono (by simp) hb) (λb hb=>Zl.mono (by simp) hb)
theorem Ow.map (h:Oc E T κ w i a c xs) (g:Nat->Nat) (h0:g 0=0) (hi:g i=j):Oc E T (λb=>g (κ b)) w j a c xs:=h.st (Zl.map g (map1 h0)) (Zl.map g (map1 hi))
theorem Ow.len_le (h:Oc E T κ w i a c xs):(xs.length:Int)<=9223372036854775807:=h.rdc.len_le
theorem Ow.gZ {β:Type}{E:Rp β}{xs:List (List β)}{x:List β}{ix:Int}(h:Oc (Ep.fz (Rp.sl E)) T κ w i a c xs) (hx:idx xs ix=some x):
 ∃f j,Rd E κ w 0 f j x/\∀w',Ag [0,i] κ w w'->w'.cell? (aAt a (ix.toNat * 1))=some (.slice f x.length j):=by
 have hr:=h.rdc
 obtain⟨u,h1,h2,l⟩:=h
 obtain⟨z,A,t⟩:=c8 hx
 obtain⟨cs,m,f,j,e,n⟩:=l.get _ _ t
 subst e
 refine⟨f,j,Sl.st (λb hb=>⟨Zl.mono (by simp) hb,rfl⟩) n,λw' s=>?_⟩
 rcases h1.2 with ⟨_,hn,_⟩ | ⟨g,o,k,rfl,q,v,hc,y,r⟩
 · omega
 · have d:=m 0 _ rfl
   rw[← r,List.getElem?_take]at d
   split at d
   · have hb:w'.heap[g]? =w.heap[g]?:=s g (Zl.mono (by simp) (h2 g rfl))
     show w'.cell? ((⟨g,o,none⟩:Addr).add _)=_
     rw[addb,cell_of_row w' g _ k T (0,0) (hb.trans q)]
     rw[List.getElem?_drop]at d
     have p:(Ep.fz (Rp.sl E)).size=1:=rfl
     rw[p]at d
     simpa using d
   · cases d
end
def mp:List (Nat×Nat)->Nat->Nat->Nat
 | [],d,c=>bif Nat.beq c 0 then 0 else d
 | (a,b)::l,d,c=>bif Nat.beq a c then b else mp l d c
def vs2:List (Nat×Nat)->Bool
 | []=>true
 | (_,b)::l=>bif Nat.ble 2 b then vs2 l else false
theorem yE {d:Nat}(hd:d<=1):∀(l:List (Nat×Nat)) (c:Nat),c∉ks l->mp l d c<=1
 | [],c,_=>by
  simp only[mp]
  cases Nat.beq c 0 <;> simp <;> omega
 | (a,b)::l,c,h=>by
  simp only[mp]
  simp only[ks,List.mem_cons,not_or]at h
  cases e:Nat.beq a c with
  | true=>exact absurd (Nat.eq_of_beq_eq_true e).symm h.1
  | false=>exact yE hd l c h.2
theorem rL:∀(l:List (Nat×Nat)) (c:Nat),vs2 l=true->mp l 1 c=0->c=0
 | [],c,_,h=>by
  simp only[mp]at h
  cases e:Nat.beq c 0 with
  | true=>exact Nat.eq_of_beq_eq_true e
  | false=>rw[e]at h;cases h
 | (a,b)::l,c,hv,h=>by
  simp only[mp]at h
  simp only[vs2]at hv
  cases d:Nat.ble 2 b with
  | false=>rw[d]at hv;cases hv
  | true=>
   rw[d]at hv
   cases e:Nat.beq a c with
   | true=>
    rw[e]at h
    have:=Nat.ble_eq.mp d
    simp only[cond_true]at h
    omega
   | false=>rw[e]at h;exact rL l c hv h
def mix (κ:Col) (n:Nat) (m:Nat->Nat) (κ1:Col) (base:Nat):Col:=λb=>bif (Nat.blt b n&&Nat.ble (m (κ b)) 1) then κ b else bif Nat.beq (κ1 b) 0 then 0 else base+κ1 b
section
variable {κ κ1:Col}{w w1:World}{base d:Nat}{l:List (Nat×Nat)}
theorem xV {m:Nat->Nat}{n b:Nat}(hb:b<n) (hm:m (κ b)<=1):mix κ n m κ1 base b=κ b:=by
 have h1:Nat.blt b n=true:=Nat.ble_eq.mpr hb
 have h2:Nat.ble (m (κ b)) 1=true:=Nat.ble_eq.mpr hm
 simp[mix,h1,h2]
theorem oX {m:Nat->Nat}{b:Nat}(e:Ent (λb=>m (κ b)) w κ1 w1) (h2:2<=κ1 b):mix κ w.heap.size m κ1 base b=base+κ1 b:=by
 have c:(Nat.blt b w.heap.size&&Nat.ble (m (κ b)) 1)=false:=by
  cases d:Nat.blt b w.heap.size with
  | false=>rfl
  | true=>
   cases a:Nat.ble (m (κ b)) 1 with
   | false=>rfl
   | true=>
    have i:κ1 b=m (κ b):=(e.keep b (Nat.ble_eq.mp d) (Nat.ble_eq.mp a)).1
    have j:=Nat.ble_eq.mp a
    omega
 have f:Nat.beq (κ1 b) 0=false:=by
  cases g:Nat.beq (κ1 b) 0 with
  | false=>rfl
  | true=>have:=Nat.eq_of_beq_eq_true g;omega
 simp[mix,c,f]
theorem Stp.mix (e:Ent (λb=>mp l d (κ b)) w κ1 w1) (base:Nat) (hd:Nat.ble d 1=true):Stp (ks l) κ w (mix κ w.heap.size (mp l d) κ1 base) w1:=
 ⟨e.os,e.tape,e.output,e.size,λb hb hc=>by
  have h1:mp l d (κ b)<=1:=yE (Nat.ble_eq.mp hd) l _ hc
  exact⟨xV hb h1,(e.keep b hb h1).2⟩⟩
theorem Ow.mix {α:Type}{E:Ep α}{T:TypeId}{k j:Nat}{a:Option Addr}{c:Nat}{xs:List α}(h:Oc E T κ1 w1 k a c xs) (hE:E.No) (e:Ent (λb=>mp l d (κ b)) w κ1 w1) (hk:Nat.ble 2 k=true) (hj:base+k=j):
 Oc E T (Wk.mix κ w.heap.size (mp l d) κ1 base) w1 j a c xs:=
 (h.no hE (F':=Zl (Wk.mix κ w.heap.size (mp l d) κ1 base) w1 [0])).st (λb hb=>⟨hb,rfl⟩) λb hb=>by
  have h1:κ1 b=k:=by simpa [Zl] using hb.2
  refine⟨⟨hb.1,?_⟩,rfl⟩
  rw[oX e (by rw[h1];exact Nat.ble_eq.mp hk),h1,hj]
  simp
theorem Sl.mix0 {α:Type}{E:Rp α}{a:Option Addr}{c:Nat}{xs:List α}(h:Rd E κ1 w1 0 a c xs) (e:Ent (λb=>mp l 1 (κ b)) w κ1 w1) (g:vs2 l=true):
 Rd E (Wk.mix κ w.heap.size (mp l 1) κ1 base) w1 0 a c xs:=
 Sl.st (λb hb=>by
  have h1:κ1 b=0:=by simpa [Zl] using hb.2
  refine⟨⟨hb.1,?_⟩,rfl⟩
  have:Wk.mix κ w.heap.size (mp l 1) κ1 base b=0:=by
   unfold Wk.mix
   cases d:(Nat.blt b w.heap.size&&Nat.ble (mp l 1 (κ b)) 1) with
   | false=>simp[h1]
   | true=>
    rw[sh]at d
    have f:κ1 b=mp l 1 (κ b):=(e.keep b (Nat.ble_eq.mp d.1) (Nat.ble_eq.mp d.2)).1
    exact rL l _ g (f.symm.trans h1)
  rw[this];simp) h
end
theorem m_z {c:Nat}(h:c=0):c∈[0]:=by simp[h]
theorem zV {c:Nat}(h:c=0):c∈[0,0]:=by simp[h]
theorem z_m {c:Nat}(h:c∈[0]):c=0:=by simpa using h
theorem zY {c:Nat}(h:c∈[0,0]):c=0:=by simpa using h
theorem Ent.mixed {κ κ1:Col}{w w1:World}{d:Nat}{l:List (Nat×Nat)}(e:Ent (λb=>mp l d (κ b)) w κ1 w1) (base:Nat) (hd:Nat.ble d 1=true):
 ∃κ',Stp (ks l) κ w κ' w1/\∀b,2<=κ1 b->κ' b=base+κ1 b:=⟨_,Stp.mix e base hd,λ_ h=>oX e h⟩
theorem Ent.mixed0 {κ κ1:Col}{w w1:World}{l:List (Nat×Nat)}(e:Ent (λb=>mp l 1 (κ b)) w κ1 w1) (base:Nat) (f:vs2 l=true):
 ∃κ',Stp (ks l) κ w κ' w1/\(∀b,2<=κ1 b->κ' b=base+κ1 b)/\∀b,b<w1.heap.size->κ1 b=0->κ' b=0:=⟨_,Stp.mix e base rfl,λ_ h=>oX e h,λb hb h=>by
 have h2:=(Sl.mix0 (E:=Rp.bool) (a:=some ⟨b,0,none⟩) (c:=0) (xs:=[]) (base:=base) ⟨by simp,by simp,.inl ⟨rfl,λh=>by cases h⟩⟩ e f)
 have d:Zl κ1 w1 [0,0] b:=⟨hb,by simp[h]⟩
 unfold Wk.mix
 cases d:(Nat.blt b w.heap.size&&Nat.ble (mp l 1 (κ b)) 1) with
 | false=>simp[h]
 | true=>
  rw[sh]at d
  have g:κ1 b=mp l 1 (κ b):=(e.keep b (Nat.ble_eq.mp d.1) (Nat.ble_eq.mp d.2)).1
  exact rL l _ f (g.symm.trans h)⟩
section
variable {κ' κ1:Col}{w1:World}{base k j:Nat}
theorem Ow.mx {α:Type}{E:Ep α}{T:TypeId}{a:Option Addr}{c:Nat}{xs:List α}(h:Oc E T κ1 w1 k a c xs) (hE:E.No) (hm:∀b,2<=κ1 b->κ' b=base+κ1 b) (hk:Nat.ble 2 k=true) (hj:base+k=j):Oc E T κ' w1 j a c xs:=
 (h.no hE (F':=Zl κ' w1 [0])).st (λb hb=>⟨hb,rfl⟩) λb hb=>by
  have h1:κ1 b=k:=by simpa [Zl] using hb.2
  refine⟨⟨hb.1,?_⟩,rfl⟩
  rw[hm b (by rw[h1];exact Nat.ble_eq.mp hk),h1,hj]
  simp
theorem Ow.mxz {α:Type}{E:Ep α}{T:TypeId}{a:Option Addr}{c:Nat}{xs:List α}(h:Oc E T κ1 w1 k a c xs) (d:∀b,b<w1.heap.size->κ1 b=0->κ' b=0) (hm:∀b,2<=κ1 b->κ' b=base+κ1 b) (hk:Nat.ble 2 k=true) (hj:base+k=j):Oc E T κ' w1 j a c xs:=
 h.st (λb hb=>⟨⟨hb.1,m_z (d b hb.1 (z_m hb.2))⟩,rfl⟩) λb hb=>by
  have h1:κ1 b=k:=by simpa [Zl] using hb.2
  refine⟨⟨hb.1,?_⟩,rfl⟩
  rw[hm b (by rw[h1];exact Nat.ble_eq.mp hk),h1,hj]
  simp
theorem Sl.mx {α:Type}{E:Rp α}{a:Option Addr}{c:Nat}{xs:List α}(h:Rd E κ1 w1 0 a c xs) (d:∀b,b<w1.heap.size->κ1 b=0->κ' b=0):Rd E κ' w1 0 a c xs:=
 Sl.st (λb hb=>⟨⟨hb.1,zV (d b hb.1 (zY hb.2))⟩,rfl⟩) h
end
def fzc (κ:Col) (i:Nat):Col:=λb=>bif Nat.beq (κ b) i then 0 else κ b
theorem yR {κ:Col}{i b:Nat}(h:κ b=i):fzc κ i b=0:=by simp[fzc,h]
theorem Stp.fz (κ:Col) (w:World) (i:Nat):Stp [i] κ w (fzc κ i) w:=⟨rfl,rfl,rfl,Nat.le_refl _,λb _ hc=>⟨by
 have:Nat.beq (κ b) i=false:=by
  cases e:Nat.beq (κ b) i with
  | false=>rfl
  | true=>exact absurd (by simp[Nat.eq_of_beq_eq_true e]) hc
 simp[fzc,this],rfl⟩⟩
theorem Zl.fz {κ:Col}{w:World}{i:Nat}:∀b,Zl κ w [0,i] b->Zl (fzc κ i) w [0,0] b/\w.heap[b]? =w.heap[b]?:=λb hb=>by
 refine⟨⟨hb.1,?_⟩,rfl⟩
 have:κ b=0\/κ b=i:=by simpa [Zl] using hb.2
 rcases this with h | h
 · have:fzc κ i b=0:=by
    unfold fzc
    cases Nat.beq (κ b) i <;> simp[h]
   simp[this]
 · simp[yR h]
theorem kB (κ:Col) (w:World) (i:Nat):∃κ',Stp [i] κ w κ' w/\∀b,Zl κ w [0,i] b->Zl κ' w [0,0] b/\w.heap[b]? =w.heap[b]?:=⟨_,Stp.fz κ w i,λb hb=>Zl.fz b hb⟩
def Bx (w:World) (b:Nat) (T:TypeId) (cs:List Value):Prop:=w.heap[b]? =some (.cells cs.toArray T (0,0))
theorem Bx.lt {w:World}{b:Nat}{T:TypeId}{cs:List Value}(h:Bx w b T cs):b<w.heap.size:=(Array.getElem?_eq_some_iff.1 h).1
theorem Bx.cell {w:World}{b:Nat}{T:TypeId}{cs:List Value}(h:Bx w b T cs){j:Nat}{v:Value}(a:cs[j]? =some v):w.cell? ((⟨b,0,none⟩:Addr).add j)=some v:=by
 have hb:w.heap[b]? =some (.cells cs.toArray T (0,0)):=h
 rw[addb]
 simp[World.cell?,hb,a]
structure Bc (κ:Col) (w:World) (i:Nat) (b:Nat) (T:TypeId) (cs:List Value):Prop where
 bx:Bx w b T cs
 col:κ b=i
section
variable {X:List Nat}{κ κ' κ1:Col}{w w' w1:World}{i j b:Nat}{T:TypeId}{cs:List Value}
theorem Bc.stp (h:Bc κ w i b T cs) (s:Stp X κ w κ' w') (h0:nin X 0=true:=by exact rfl) (a:nin X i=true:=by exact rfl):Bc κ' w' i b T cs:=by
 obtain⟨h1,h2⟩:=s.keep b h.bx.lt (by rw[h.col];exact dU.1 a)
 exact⟨h2.trans h.bx,h1.trans h.col⟩
theorem Bc.map (h:Bc κ w i b T cs) (g:Nat->Nat) (h0:g 0=0) (hi:g i=j):Bc (λb=>g (κ b)) w j b T cs:=⟨h.bx,by show g (κ b)=j;rw[h.col,hi]⟩
theorem Bc.mix {l:List (Nat×Nat)}{d base k:Nat}(h:Bc κ1 w1 k b T cs) (e:Ent (λb=>mp l d (κ b)) w κ1 w1) (hk:Nat.ble 2 k=true) (hj:base+k=j):Bc (Wk.mix κ w.heap.size (mp l d) κ1 base) w1 j b T cs:=
 ⟨h.bx,by rw[oX e (by rw[h.col];exact Nat.ble_eq.mp hk),h.col,hj]⟩
theorem Bc.mx {base k:Nat}(h:Bc κ1 w1 k b T cs) (hm:∀b,2<=κ1 b->κ' b=base+κ1 b) (hk:Nat.ble 2 k=true) (hj:base+k=j):Bc κ' w1 j b T cs:=
 ⟨h.bx,by rw[hm b (by rw[h.col];exact Nat.ble_eq.mp hk),h.col,hj]⟩
theorem Bc.cell (h:Bc κ w i b T cs){v:Value}(j:Nat) (a:cs[j]? =some v):∀w',Ag [i] κ w w'->w'.cell? ((⟨b,0,none⟩:Addr).add j)=some v:=λw' c=>
 (show Bx w' b T cs from(c b ⟨h.bx.lt,by rw[h.col];simp⟩).trans h.bx).cell a
theorem Bc.ld (h:Bc κ w i b T cs){p:Addr}{v:Value}(off:Nat) (hp:p=⟨b,off,none⟩) (a:cs[off]? =some v):∀w',Ag [i] κ w w'->w'.cell? p=some v:=λw' c=>by
 have:=h.cell off a w' c
 rw[addb,Nat.zero_add]at this
 rw[hp];exact this
theorem Bc.lds (h:Bc κ w i b T cs){p:Addr}(off k:Nat) (hp:p=⟨b,off,none⟩):∀w',Ag [i] κ w w'->∀(j:Nat) v,((cs.drop off).take k)[j]? =some v->w'.cell? (p.add j)=some v:=λw' c j v a=>by
 have h2:cs[off+j]? =some v:=by
  rw[List.getElem?_take]at a
  split at a
  · simpa using a
  · cases a
 rw[hp,addb]
 exact h.ld (off+j) rfl h2 w' c
theorem Bc.cast {cs':List Value}(h:Bc κ w i b T cs) (e:cs=cs'):Bc κ w i b T cs':=e ▸ h
theorem Bc.cells (h:Bc κ w i b T cs):∀w',Ag [i] κ w w'->∀(j:Nat) v,cs[j]? =some v->w'.cell? ((⟨b,0,none⟩:Addr).add j)=some v:=λw' c j v a=>h.cell j a w' c
theorem Bc.part (h:Bc κ w i b T cs) (off k:Nat):∀w',Ag [i] κ w w'->∀(j:Nat) v,((cs.drop off).take k)[j]? =some v->w'.cell? (((⟨b,0,none⟩:Addr).add off).add j)=some v:=λw' c j v a=>by
 have h2:cs[off+j]? =some v:=by
  rw[List.getElem?_take]at a
  split at a
  · simpa using a
  · cases a
 have:=h.cell (off+j) h2 w' c
 rw[Addr.add_add]
 rw[addb]at this
 rwa [Nat.add_assoc]
end
end Go.Wk
set_option linter.unusedVariables false
set_option linter.unusedSimpArgs false
namespace Go.Wk
open Go
section
variable {P:Program}{n:Nat}{Q:Exit->Act->World->Prop}{L:Env}{w:World}{ops:Array Oper}{N:Act->World->Prop}{r:List (Nat×Nat)}{i d:Nat}{o:Oper}{v:Value}
theorem WC.ct' {c:Operand}{x y:Code}{b:Bool}(hc:opd L c=some (.bool b)) (hb:b=true) (h:WC P n x Q L w):WC P n (.cond c x y) Q L w:=WC.ct (by rw[hc,hb]) h
theorem WC.cf' {c:Operand}{x y:Code}{b:Bool}(hc:opd L c=some (.bool b)) (hb:b=false) (h:WC P n y Q L w):WC P n (.cond c x y) Q L w:=WC.cf (by rw[hc,hb]) h
theorem WO.fin {C:World->Prop}(h:DN n Q .normal L w):WO P n ops C (λa w=>Q .normal a w) [] L w:=h
theorem WO.nx {C:World->Prop}{b:List (Nat×Nat)}(h:WO P n ops (λ_=>True) N b L w):WO P n ops C (λa w=>Wlk P ops (λ_=>True) N b a w) [] L w:=h
theorem WC.rs {id:Nat}(b:List (Nat×Nat)) (hB:b.map (·.1)=List.range ops.size)
 (h:WO P n ops (λ_=>True) (λa w=>Q .normal a w) b L w):WC P n (.region id ops false) Q L w:=WC.reg (λ_=>True) b hB trivial h
theorem WC.rx {id:Nat}{κ:Col}(M:List Nat) (l:Option Nat) (b c:List (Nat×Nat)) (hm:P.follows .mixedOrders=true) (hB:ordOk ops l b c=true)
 (h:∀w1,Stp [] κ w κ w1->WO P n ops (Cl M κ w1) (λa w=>Wlk P ops (λ_=>True) (λa w=>Q .normal a w) c a w) b L w1):WC P n (.region id ops true) Q L w:=
 WC.regd (Cl M κ { w with drawn:=w.drawn+1 }) l b c hm hB (Cl.refl _ _ _) (h _ Stp.drew)
theorem WC.rxt {id:Nat}{κ:Col}(M:List Nat) (l:Option Nat) (hm:P.follows .mixedOrders=true)
 (h:∀w1,Stp [] κ w κ w1->WA P n ops l (Cl M κ w1) (λa w=>Q .normal a w) (Array.replicate ops.size false) ops.size L w1):WC P n (.region id ops true) Q L w:=
 WC.regt (Cl M κ { w with drawn:=w.drawn+1 }) l hm (Cl.refl _ _ _) (h _ Stp.drew)
theorem WO.k0 {C:World->Prop}(b:ops[i]? =some o) (a:gd ops L o=some true) (hd:o.dst=some d) (hb:Nat.blt d n=true)
 (hr:Rn P n C o L v) (k:WO P n ops C N r ((d,v)::L) w):WO P n ops C N ((i,0)::r) L w:=WO.q b a hd hb hr k
theorem WO.k1 {C:World->Prop}(a:C w) (c:ops[i]? =some o) (b:gd ops L o=some true) (hd:o.dst=some d) (hb:Nat.blt d n=true)
 (hr:Rn P n (λx=>x=w) o L v) (k:WO P n ops C N r ((d,v)::L) w):WO P n ops C N ((i,1)::r) L w:=WO.lq c b hd hb a hr k
theorem WO.k2 {C:World->Prop}(c:ops[i]? =some o) (b:gd ops L o=some true) (hd:o.dst=some d) (hb:Nat.blt d n=true)
 (hr:Rn P n (λ_=>True) o L v) (k:WO P n ops C N r ((d,v)::L) w):WO P n ops C N ((i,2)::r) L w:=WO.p c b hd hb (λa w' ha=>hr a w' ha trivial) k
end
def JQ (n:Nat) (I:Env->World->Prop) (Q:Exit->Act->World->Prop):Exit->Act->World->Prop
 | .normal,a,w=>∃L,I L w/\Kn n L a
 | e,a,w=>Q e a w
section
variable {P:Program}{n:Nat}{Q:Exit->Act->World->Prop}{L:Env}{w:World}
theorem WC.meet {x:Code}(I:Env->World->Prop) (h:WC P n x (JQ n I Q) L w) (k:∀L w,I L w->DN n Q .normal L w):WC P n x Q L w:=λa ha=>
 wp_mono (h a ha) λe c w' b=>by
  cases e <;> try exact b
  obtain⟨L',h1,h2⟩:=b
  exact k L' w' h1 c h2
theorem DN.meet {I:Env->World->Prop}(L':Env) (h:I L' w) (hk:∀a,Kn n L a->Kn n L' a):DN n (JQ n I Q) .normal L w:=λa ha=>⟨L',h,hk a ha⟩
theorem DN.retMeet {I:Env->World->Prop}(h:DN n Q .ret L w):DN n (JQ n I Q) .ret L w:=h
end
theorem lF {P:Program}{ops:Array Oper}{C:World->Prop}{N:Act->World->Prop}{b:List (Nat×Nat)}:∀(c:List (Nat×Nat)) (a:Act) (w:World),Wlk P ops C (Wlk P ops C N b) c a w->C w->Wlk P ops C N (c++b) a w
 | [],_,_,h,_=>h
 | (i,0)::r,a,w,⟨o,v,h1,h2,h3⟩,hC=>⟨o,v,h1,h2,lF r _ _ h3 hC⟩
 | (i,1)::r,a,w,h,hC=>by
  have e:rOp P ops C i (Wlk P ops C (Wlk P ops C N b) r) a w:=h
  exact iw hC (λd w' hc hk=>lF r d w' hk hc) e
 | (i,k+2)::r,a,w,⟨o,v,h1,h2,h3⟩,hC=>⟨o,v,h1,h2,lF r _ _ h3 hC⟩
theorem nC {P:Program}{ops:Array Oper}{C:World->Prop}{N N':Act->World->Prop}(b:∀a w,N a w->N' a w):∀(r:List (Nat×Nat)) (a:Act) (w:World),Wlk P ops C N r a w->C w->Wlk P ops C N' r a w
 | [],_,_,h,_=>b _ _ h
 | (i,0)::r,a,w,⟨o,v,h1,h2,h3⟩,hC=>⟨o,v,h1,h2,nC b r _ _ h3 hC⟩
 | (i,1)::r,a,w,h,hC=>by
  have d:rOp P ops C i (Wlk P ops C N r) a w:=h
  exact iw hC (λc w' hc hk=>nC b r c w' hk hc) d
 | (i,k+2)::r,a,w,⟨o,v,h1,h2,h3⟩,hC=>⟨o,v,h1,h2,nC b r _ _ h3 hC⟩
theorem WO.meet {P:Program}{n:Nat}{ops:Array Oper}{C:World->Prop}{N:Act->World->Prop}{L:Env}{w:World}(b d:List (Nat×Nat)) (I:Env->World->Prop) (c:C w)
 (h:WO P n ops C (λa w=>∃L,(C w/\I L w)/\Kn n L a) b L w) (k:∀L w,C w->I L w->WO P n ops C N d L w):WO P n ops C N (b++d) L w:=λa ha=>
 lF b a w (nC (λe w' ⟨L',⟨hc,f⟩,hk⟩=>k L' w' hc f e hk) b a w (h a ha) c) c
theorem WO.met {P:Program}{n:Nat}{ops:Array Oper}{C:World->Prop}{I:Env->World->Prop}{L:Env}{w:World}(L':Env) (b:C w) (hI:I L' w) (hk:∀a,Kn n L a->Kn n L' a):WO P n ops C (λa w=>∃L,(C w/\I L w)/\Kn n L a) [] L w:=λa ha=>⟨L',⟨b,hI⟩,hk a ha⟩
structure Gp (k:Nat) (L:Env) (v:Value):Prop
structure Kp (ks:List Nat) (L E:Env):Prop
theorem Gp.here {k:Nat}{L:Env}{v:Value}:Gp k ((k,v)::L) v:=⟨⟩
theorem Gp.next {k:Nat}{L:Env}{v:Value}{x:Nat×Value}(h:Gp k L v):Gp k (x::L) v:=⟨⟩
theorem Kp.nil {L:Env}:Kp [] L []:=⟨⟩
theorem Kp.cons {k:Nat}{ks:List Nat}{L E:Env}{v:Value}(h1:Gp k L v) (h2:Kp ks L E):Kp (k::ks) L ((k,v)::E):=⟨⟩
theorem WC.meetK {P:Program}{n:Nat}{Q:Exit->Act->World->Prop}{L E:Env}{w:World}{x:Code}(ks:List Nat) (I:Env->Env->World->Prop) (h:WC P n x (JQ n (I E) Q) L w) (k:∀L w,I E L w->DN n Q .normal L w)
 (hE:Kp ks L E:=by repeat (first | exact Kp.nil | apply Kp.cons | exact Gp.here | apply Gp.next)):WC P n x Q L w:=WC.meet (I E) h k
theorem WC.loopK {P:Program}{n:Nat}{Q:Exit->Act->World->Prop}{L E:Env}{w:World}{c:Code}(ks:List Nat) (I:Nat->Env->Env->World->Prop) (h0:∃k L',I k E L' w/\∀a,Kn n L a->Kn n L' a)
 (d:∀k L w,I k E L w->WC P n c (Exit.then (λb w'=>∃k' L',k'<k/\I k' E L' w'/\Kn n L' b) Q) L w)
 (hE:Kp ks L E:=by repeat (first | exact Kp.nil | apply Kp.cons | exact Gp.here | apply Gp.next)):WC P n (.loop c) Q L w:=WC.loop (λk L w=>I k E L w) h0 d
theorem WO.meetK {P:Program}{n:Nat}{ops:Array Oper}{C:World->Prop}{N:Act->World->Prop}{L E:Env}{w:World}(ks:List Nat) (I:Env->Env->World->Prop) (b c:List (Nat×Nat)) (d:C w)
 (h:WO P n ops C (λa w=>∃L,(C w/\I E L w)/\Kn n L a) b L w) (k:∀L w,C w->I E L w->WO P n ops C N c L w)
 (hE:Kp ks L E:=by repeat (first | exact Kp.nil | apply Kp.cons | exact Gp.here | apply Gp.next)):WO P n ops C N (b++c) L w:=WO.meet b c (I E) d h k
def iop (a:BinOp) (k:IntKind) (p q:Int):Option Value:=match a with
 | .add=>some (.int k (k.wrap (p+q)))
 | .sub=>some (.int k (k.wrap (p-q)))
 | .mul=>some (.int k (k.wrap (p * q)))
 | .and=>some (.int k (k.wrap (BitVec.ofInt k.bits p &&& BitVec.ofInt k.bits q).toNat))
 | .or=>some (.int k (k.wrap (BitVec.ofInt k.bits p ||| BitVec.ofInt k.bits q).toNat))
 | .xor=>some (.int k (k.wrap (BitVec.ofInt k.bits p ^^^ BitVec.ofInt k.bits q).toNat))
 | .lss=>some (.bool (decide (p<q)))
 | .leq=>some (.bool (decide (p<=q)))
 | .gtr=>some (.bool (decide (q<p)))
 | .geq=>some (.bool (decide (q<=p)))
 | .eql=>some (.bool (p==q))
 | .neq=>some (.bool (p !=q))
 | _=>none
def pstep (L:Env) (o:Oper):Option Value:=match o.op with
 | .move x=>opd L x
 | .assign x=>opd L x
 | .pick c x y=>match opd L c with
  | some (.bool true)=>opd L x
  | some (.bool false)=>opd L y
  | _=>none
 | .unOp .not _ x=>match opd L x with
  | some (.bool b)=>some (.bool (!b))
  | _=>none
 | .binOp op _ x y _=>match opd L x with
  | some (.int k p)=>match opd L y with
   | some (.int k' q)=>match decide (k=k') with
    | true=>iop op k p q
    | false=>none
   | _=>none
  | _=>none
 | .extract x i=>match opd L x with
  | some (.tuple a)=>a[i]?
  | _=>none
 | _=>none
theorem zj {P:Program}{n:Nat}{C:World->Prop}{o:Oper}{L:Env}{b:BinOp}{t t':TypeId}{x y:Operand}{k:IntKind}{p q:Int}{v:Value}(a:o.op= .binOp b t x y t') (hx:opd L x=some (.int k p)) (hy:opd L y=some (.int k q)) (h:iop b k p q=some v):Rn P n C o L v:=by
 cases b <;> simp only[iop,Option.some.injEq]at h <;> (try cases h)
 · exact zd hx hy a
 · exact zt hx hy a
 · exact zo hx hy a
 · exact ze hx hy a
 · exact zQ hx hy a
 · exact zu hx hy a
 · exact zg hx hy a
 · exact zp hx hy a
 · exact zn hx hy a
 · exact zm hx hy a
 · exact zi hx hy a
 · exact zh hx hy a
theorem xd {P:Program}{n:Nat}{C:World->Prop}{o:Oper}{L:Env}{v:Value}(h:pstep L o=some v):Rn P n C o L v:=by
 unfold pstep at h
 split at h
 · rename_i x a;exact yo a h
 · rename_i x a;exact vS a h
 · rename_i c x y a
   split at h
   · rename_i hc;exact xc a hc h
   · rename_i hc;exact xb a hc h
   · cases h
 · rename_i t x a
   split at h
   · rename_i b hx
     cases h
     exact zq a hx
   · cases h
 · rename_i e t x y t' a
   split at h
   · rename_i k p hx
     split at h
     · rename_i k' q hy
       split at h
       · rename_i d
         have:=of_decide_eq_true d
         subst this
         exact zj a hx hy h
       · cases h
     · cases h
   · cases h
 · rename_i x i a
   split at h
   · rename_i f hx;exact ur a hx h
   · cases h
 · cases h
def pn (ops:Array Oper) (n:Nat):Nat->List (Nat×Nat)->Env->Option (List (Nat×Nat)×Env)
 | 0,r,L=>some (r,L)
 | m+1,(i,2)::r,L=>match ops[i]? with
  | some o=>match gd ops L o with
   | some true=>match o.dst with
    | some d=>match Nat.blt d n with
     | true=>match pstep L o with
      | some v=>pn ops n m r ((d,v)::L)
      | none=>none
     | false=>none
    | none=>none
   | some false=>match o.dst with
    | some d=>match Nat.blt d n with
     | true=>pn ops n m r ((d,undef)::L)
     | false=>none
    | none=>none
   | none=>none
  | none=>none
 | _+1,_,_=>none
theorem WO.pn {P:Program}{n:Nat}{ops:Array Oper}{C:World->Prop}{N:Act->World->Prop}{w:World}:∀(m:Nat){r r':List (Nat×Nat)}{L L':Env},Wk.pn ops n m r L=some (r',L')->WO P n ops C N r' L' w->WO P n ops C N r L w
 | 0,r,r',L,L',h,k=>by
  simp only[Wk.pn,Option.some.injEq,Prod.mk.injEq]at h
  obtain⟨rfl,rfl⟩:=h
  exact k
 | m+1,r,r',L,L',h,k=>by
  unfold Wk.pn at h
  split at h
  · omega
  · rename_i e
    cases e
    split at h
    · rename_i o c
      split at h
      · rename_i b
        split at h
        · rename_i d hd
          split at h
          · rename_i hb
            split at h
            · rename_i v f
              exact WO.p c b hd hb (λa w' ha=>xd (C:=λ_=>True) f a w' ha trivial) (WO.pn m h k)
            · cases h
          · cases h
        · cases h
      · rename_i b
        split at h
        · rename_i d hd
          split at h
          · rename_i hb;exact WO.ps c b hd hb (WO.pn m h k)
          · cases h
        · cases h
      · cases h
    · cases h
  · cases h
theorem DN.round {n:Nat}{Q:Exit->Act->World->Prop}{L:Env}{w:World}{K:Act->World->Prop}(h:∀a,Kn n L a->K a w):DN n (Exit.then K Q) .normal L w:=h
section
variable {P:Program}{n:Nat}{C:World->Prop}{o:Oper}{L:Env}
theorem yF {x:Operand}{t:TypeId}{p:Addr}{v:Value}(ht:∀w,(isAgg t).run P w= .ok false w) (a:o.op= .load t x) (hx:opd L x=some (.pointer (some p))) (b:∀w,C w->w.cell? p=some v):Rn P n C o L v:=yn ht a hx b
theorem zP {x:Operand}{t:TypeId}{p:Addr}{cs:List Value}(ht:∀w,(isAgg t).run P w= .ok true w){k:Nat}(hk:∀w,(sizeOf t).run P w= .ok k w) (a:o.op= .load t x) (hx:opd L x=some (.pointer (some p)))
 (hl:cs.length=k) (b:∀w,C w->∀(j:Nat) v,cs[j]? =some v->w.cell? (p.add j)=some v):Rn P n C o L (.agg cs.toArray):=ut ht hk a hx b hl
theorem tm {α:Type}{E:Rp α}{S:Nat->Prop}{w:World}{x ix:Operand}{t e:TypeId}{a:Option Addr}{c l d:Nat}{k:IntKind}{i:Int}{xs:List α}{y:α}(hs:Sl E S w a c xs) (h:idx xs i=some y)
 (ht:∀w,(underlying t).run P w= .ok (.slice e) w) (g:∀w,(sizeOf e).run P w= .ok d w) (f:o.op= .indexAddr t x ix)
 (hx:opd L x=some (.slice a l c)) (hl:l=xs.length) (hi:opd L ix=some (.int k i)):Rn P n C o L (.pointer (some (aAt a (i.toNat * d)))):=λb w' ha _=>by
 obtain⟨h0,h1,p,rfl⟩:=hs.base h
 subst hl
 simp[execOp,f,ha.eval hx,ha.eval hi,Instr.indexAt,asIntOf,ht,g,h0,h1,aAt]
theorem bY {x:Operand}{p:Addr}(b:o.op= .nilCheck x) (hx:opd L x=some (.pointer (some p))):Rn P n C o L (.pointer (some p)):=λa w ha _=>by
 simp[execOp,b,ha.eval hx]
theorem iZ {x ix:Operand}{t e:TypeId}{p:Addr}{len a:Nat}{k:IntKind}{i:Int}(ht:∀w,(underlying t).run P w= .ok (.array len e) w) (d:∀w,(sizeOf e).run P w= .ok a w) (c:o.op= .indexAddr t x ix)
 (hx:opd L x=some (.pointer (some p))) (hi:opd L ix=some (.int k i)) (hr:(decide (0<=i)&&decide (i<len))=true):Rn P n C o L (.pointer (some (p.add (i.toNat * a)))):=λb w' ha _=>by
 simp only[sh,decide_eq_true_eq]at hr
 simp[execOp,c,ha.eval hx,ha.eval hi,Instr.indexAt,Instr.sureAddr,asIntOf,ht,d,hr.1,hr.2]
theorem wZ {t:TypeId}{parts:List (Nat×Operand)}{b cells:List Value}(c:o.op= .build t parts.toArray) (d:opds L (parts.map (·.2))=some b) (hb:P.built t (List.zip (parts.map (·.1)) b)=some cells.toArray):Rn P n C o L (.agg cells.toArray):=λa w ha _=>by
 have e:(parts.toArray.map λ(i,x)=>(i,a.eval x)).toList=List.zip (parts.map (·.1)) b:=by
  have h1:(parts.map (·.2)).map a.eval=b:=by simpa using ha.evals d
  rw[← h1]
  clear c d hb h1
  induction parts with
  | nil=>simp
  | cons p r f=>simpa using f
 have h2:=run_build (P:=P) w t (parts.toArray.map λ(i,x)=>(i,a.eval x)) cells.toArray (by rw[e];exact hb)
 simp only[execOp,c,Sem.run_bind,h2,Result.andThen_ok,Sem.run_pure]
end
section
variable {P:Program}{n:Nat}{ops:Array Oper}{C:World->Prop}{N:Act->World->Prop}{r:List (Nat×Nat)}{L:Env}{w:World}{i d:Nat}{o:Oper}
def Ret (P:Program) (f:FuncId) (a:List Value) (w:World) (R:Value->World->Prop):Prop:=Calls P f a.toArray w (λe w'=>∃v,e= .returned v/\R v w')
theorem Ret.mono {f:FuncId}{a:List Value}{R R':Value->World->Prop}(h:Ret P f a w R) (hr:∀v w',R v w'->R' v w'):Ret P f a w R':=
 Calls.mono h λ_ _ ⟨v,e,k⟩=>⟨v,e,hr _ _ k⟩
theorem Ret.cast {f:FuncId}{a b:List Value}{R:Value->World->Prop}(e:a=b) (h:Ret P f b w R):Ret P f a w R:=e ▸ h
theorem WO.call (e:ops[i]? =some o) (c:gd ops L o=some true) (hd:o.dst=some d) (hb:Nat.blt d n=true){f:FuncId}{xs:List Operand}{l:Array TypeId}{b:List Value}
 (g:o.op= .call { callee:= .value (.func f),args:=xs.toArray,argTypes:=l }) (j:opds L xs=some b) (hc:∀(as:Array Value) (w:World),(callFunc f as).run P w= .ok (.enter f as) w)
 {R:Value->World->Prop} (h:Ret P f b w R) (k:∀v w',R v w'->C w'/\WO P n ops C N r ((d,v)::L) w'):WO P n ops C N ((i,1)::r) L w:=
 WO.l e c hd hb λa ha=>by
  have h1:xs.toArray.map a.eval=b.toArray:=ha.evals j
  unfold Runs
  have:(execOp a.eval o).run P w= .ok (.enter f b.toArray) w:=by
   simp only[execOp,g,resolve,h1,Act.eval,Deferred.ofValue,Sem.run_bind,Sem.run_pure,Result.andThen_ok,invoke]
   simpa using hc _ w
  rw[this]
  exact h.mono λ_ _ hr=>k _ _ hr
theorem WO.callV (l:ops[i]? =some o) (j:gd ops L o=some true) (hd:o.dst=some d) (hb:Nat.blt d n=true){f:FuncId}{x:Operand}{c:Array Value}{xs:List Operand}{s:Array TypeId}{b g:List Value}
 (m:o.op= .call { callee:= .value x,args:=xs.toArray,argTypes:=s }) (hx:opd L x=some (.func (.func f) #[] c)) (p:opds L xs=some b) (q:b++c.toList=g) (hc:∀(as:Array Value) (w:World),(callFunc f as).run P w= .ok (.enter f as) w)
 {R:Value->World->Prop} (h:Ret P f g w R) (k:∀v w',R v w'->C w'/\WO P n ops C N r ((d,v)::L) w'):WO P n ops C N ((i,1)::r) L w:=
 WO.l l j hd hb λa ha=>by
  have h1:xs.toArray.map a.eval=b.toArray:=ha.evals p
  subst q
  unfold Runs
  have:(execOp a.eval o).run P w= .ok (.enter f (b++c.toList).toArray) w:=by
   have e:(b++c.toList).toArray=b.toArray++c:=by simp
   simp only[execOp,m,resolve,h1,ha.eval hx,Deferred.ofValue,Sem.run_bind,Sem.run_pure,Result.andThen_ok,invoke,e]
   simpa using hc _ w
  rw[this]
  exact h.mono λ_ _ hr=>k _ _ hr
end
def sK (k:Nat):List Value->Env
 | []=>[]
 | v::r=>(k,v)::sK (k+1) r
theorem pG:∀(a:List Value) (k t:Nat) (v:Value),look (sK k a) t=some v->k<=t/\a[t-k]? =some v
 | [],_,_,_,h=>by cases h
 | u::r,k,t,v,h=>by
  simp only[sK,look]at h
  by_cases e:Nat.beq k t=true
  · have:k=t:=Nat.eq_of_beq_eq_true e
    subst this
    simp only[e,cond_true,Option.some.injEq]at h
    simp[h]
  · simp only[Bool.not_eq_true]at e
    simp only[e,cond_false]at h
    obtain⟨h1,h2⟩:=pG r (k+1) t v h
    refine⟨by omega,?_⟩
    rw[show t-k=(t-(k+1))+1 from by omega]
    simpa using h2
theorem Ret.enter {P:Program}{f:FuncId}{fn:Func}{c:Code}{n:Nat}{a:List Value}{w:World}{R:Value->World->Prop}(hf:P.funcs[f]? =some fn) (hb:fn.body=some c) (hn:fn.ntmps=n) (hl:Nat.ble a.length n=true)
 (h:WC P n c (bodyPost P fn (λe w'=>∃v,e= .returned v/\R v w')) (sK 0 a) w):Ret P f a w R:=by
 have d:a.length<=n:=Nat.ble_eq.mp hl
 refine calls_of_wp hf hb (h _ ⟨rfl,?_,?_⟩)
 · simp[hn];omega
 · intro t v ht
   obtain⟨_,h2⟩:=pG a 0 t v ht
   have h2:a[t]? =some v:=by simpa using h2
   have b:t<a.length:=(bK.1 h2).1
   rw[Array.getElem?_append_left (by simpa using b)]
   simpa using h2
def Res (P:Program) (L:Env) (w:World):List ResultVar->List Value->Prop
 | [],a=>a=[]
 | .tmp t::r,a=>∃v b,a=v::b/\look L t=some v/\Res P L w r b
 | .cell u t::r,a=>∃v b p,a=v::b/\look L u=some (.pointer (some p))/\(loadVar t p).run P w= .ok v w/\Res P L w r b
def rv1 (a:Array Value):ResultVar->Sem Value
 | .tmp t=>pure (a.getD t undef)
 | .cell b t=>do loadVar t (← asAddr (a.getD b undef))
theorem Res.run {P:Program}{n:Nat}{L:Env}{w:World}{a:Act}(ha:Kn n L a):∀{l:List ResultVar}{d:List Value},Res P L w l d->(l.mapM (rv1 a.tmps)).run P w= .ok d w
 | [],_,h=>by
  have h:_=[]:=h
  rw[h];simp
 | .tmp t::r,_,⟨v,g,e,h1,h2⟩=>by
  rw[e]
  have b:=ha.2.2 t v h1
  have c:=Res.run ha h2
  rw[List.mapM_cons,Sem.run_bind]
  simp[rv1,b,Sem.run_bind,c]
 | .cell u t::r,_,⟨v,g,p,e,h1,h2,b⟩=>by
  rw[e]
  have f:=ha.2.2 u _ h1
  have c:=Res.run ha b
  rw[List.mapM_cons,Sem.run_bind]
  simp[rv1,f,asAddr,h2,Sem.run_bind,c]
section
variable {P:Program}{n:Nat}{fn:Func}{R:Value->World->Prop}{L:Env}{w:World}
theorem tp {l:List ResultVar}{b:List Value}{v:Value}{a:Act}(ha:Kn n L a) (d:fn.results=l.toArray) (hr:Res P L w l b) (e:(match b with | [x]=>x | _=> .tuple b.toArray)=v):(results fn a.tmps).run P w= .ok v w:=by
 have h1:=hr.run ha
 have h2:(fn.results.mapM (rv1 a.tmps)).run P w= .ok b.toArray w:=by
  rw[d,List.mapM_toArray,map_eq_pure_bind,Sem.run_bind,h1]
  simp
 have c:results fn a.tmps=(fn.results.mapM (rv1 a.tmps)) >>=λb=>pure (if h:b.size=1 then b[0] else .tuple b):=by
  unfold results
  rfl
 rw[c,Sem.run_bind,h2]
 simp only[Result.andThen_ok,Sem.run_pure]
 rw[← e]
 match b with
 | []=>rfl
 | [x]=>rfl
 | x::y::r=>simp
theorem DN.res {l:List ResultVar}{b:List Value}{v:Value}(c:fn.results=l.toArray) (hr:Res P L w l b) (d:(match b with | [x]=>x | _=> .tuple b.toArray)=v) (h:R v w):
 DN n (bodyPost P fn (λe w'=>∃v,e= .returned v/\R v w')) .ret L w:=λa ha=>
 bodyPost_ret (v:=v) (tp ha c hr d) ha.1 ⟨v,rfl,h⟩
theorem DN.end0 (b:fn.results= #[]) (h:R (.tuple #[]) w):DN n (bodyPost P fn (λe w'=>∃v,e= .returned v/\R v w')) .normal L w:=λa ha=>
 bodyPost_end (v:= .tuple #[]) (by simp[results,b]) ha.1 ⟨_,rfl,h⟩
theorem yk {t:Nat}{v:Value}{r:List ResultVar}{a:List Value}(h:look L t=some v) (hr:Res P L w r a):Res P L w (.tmp t::r) (v::a):=⟨v,a,rfl,h,hr⟩
theorem ca {u:Nat}{t T:TypeId}{b k i:Nat}{κ:Col}{cs:List Value}{r:List ResultVar}{a:List Value}(h:look L u=some (.pointer (some ⟨b,0,none⟩))) (hb:Bc κ w i b T cs) (ha:∀w,(isAgg t).run P w= .ok true w) (hk:∀w,(sizeOf t).run P w= .ok k w) (hl:cs.length=k)
 (hr:Res P L w r a):Res P L w (.cell u t::r) (.agg cs.toArray::a):=⟨_,a,_,rfl,h,by
 subst hl
 simp[loadVar,ha,hk,run_loadCells_list w ⟨b,0,none⟩ cs λj v c=>hb.bx.cell c],hr⟩
end
def nw (κ:Col) (n i:Nat):Col:=λb=>bif Nat.blt b n then κ b else i
theorem pN {κ:Col}{n i b:Nat}(h:n<=b):nw κ n i b=i:=by
 have:Nat.blt b n=false:=by
  cases e:Nat.blt b n with
  | false=>rfl
  | true=>have:=Nat.ble_eq.mp e;omega
 simp[nw,this]
theorem Stp.nw {κ:Col}{w w':World}(i:Nat) (e:Ext w w'):Stp [] κ w (nw κ w.heap.size i) w':=Stp.ext i e
section
variable {P:Program}{n:Nat}{ops:Array Oper}{C:World->Prop}{N:Act->World->Prop}{r:List (Nat×Nat)}{L:Env}{κ:Col}{w:World}{i d:Nat}{o:Oper}
theorem WO.box (q:Nat) (f:ops[i]? =some o) (e:gd ops L o=some true) (hd:o.dst=some d) (hb:Nat.blt d n=true){T:TypeId}{x:Operand}{v:Value}{cs:List Value}
 (g:o.op= .box T x) (hx:opd L x=some v) (c:v.cells=cs.toArray) (k:∀b w' κ',Stp [] κ w κ' w'->Bc κ' w' q b T cs->C w'/\WO P n ops C N r ((d,.pointer (some ⟨b,0,none⟩))::L) w'):WO P n ops C N ((i,1)::r) L w:=
 WO.l f e hd hb λa ha=>by
  unfold Runs
  have:(execOp a.eval o).run P w= .ok (.value (.pointer (some ⟨w.heap.size,0,none⟩))) (w.alloc (.cells cs.toArray T)):=by
   simp only[execOp,g,ha.eval hx,Instr.box,newVar,newRow,c,Sem.run_bind,Sem.run_pure,Result.andThen_ok,run_newObj]
   rfl
  rw[this]
  exact k _ _ _ (Stp.nw q (Ext.alloc _ _)) ⟨heap_alloc_new w _,pN (Nat.le_refl _)⟩
theorem WO.alloc (q:Nat) (f:ops[i]? =some o) (e:gd ops L o=some true) (hd:o.dst=some d) (hb:Nat.blt d n=true){T:TypeId}{z:Value}{cs:List Value}
 (g:o.op= .alloc T) (j:∀w,(zeroValue T).run P w= .ok z w) (c:z.cells=cs.toArray) (k:∀b w' κ',Stp [] κ w κ' w'->Bc κ' w' q b T cs->C w'/\WO P n ops C N r ((d,.pointer (some ⟨b,0,none⟩))::L) w'):WO P n ops C N ((i,1)::r) L w:=
 WO.l f e hd hb λa ha=>by
  unfold Runs
  have:(execOp a.eval o).run P w= .ok (.value (.pointer (some ⟨w.heap.size,0,none⟩))) (w.alloc (.cells cs.toArray T)):=by
   simp only[execOp,g,Instr.alloc,j,newVar,newRow,c,Sem.run_bind,Sem.run_pure,Result.andThen_ok,run_newObj]
   rfl
  rw[this]
  exact k _ _ _ (Stp.nw q (Ext.alloc _ _)) ⟨heap_alloc_new w _,pN (Nat.le_refl _)⟩
end
end Go.Wk
