/- Steps that write memory of the call's own: make, literals, append, stores, parts of slices. -/
import Derived.Test.YtleekpaohfpooaaGreatFaFW
import Derived.DeepKeys4
import Derived.WideKeyArr
import Derived.Laws.StructEq
import Derived.WalkKit
import Derived.ProofKit
import Derived.OpenShut
import Derived.ShutString
import Derived.ChangeOld
import Derived.Below
import Derived.Lib.SmallJoins
import Derived.Deep.Slices
set_option linter.unusedVariables false
set_option linter.unusedSimpArgs false
open Option renaming bind → bH
open List renaming getElem?_eq_some_iff → bK, replicate → bO, mem_of_getElem? → bQ, length_append → z5, mem_singleton → z6, length_take → z9
namespace Go.Wk
open Go
abbrev Tch (m:Nat) (w w':World):Prop:=Fr (λb=>b<w.heap.size/\b+1≠m) w w'
theorem Tch.setRow (w:World) (g:Nat) (cs:Array Value):Tch (g+1) w (w.setRow g cs):=⟨rfl,rfl,rfl,by simp,λb hb=>setRow_other w g b cs (by have:=hb.2;omega)⟩
def setI {α:Type}(xs:List α) (i:Int) (v:α):Option (List α):=if 0<=i/\i<xs.length then some (xs.set i.toNat v) else none
theorem lU {α:Type}{xs ys:List α}{i:Int}{v:α}(h:setI xs i v=some ys):0<=i/\i<xs.length/\ys=xs.set i.toNat v/\ys.length=xs.length:=by
 unfold setI at h
 split at h
 · rename_i a
   simp only[Option.some.injEq]at h
   subst h
   exact⟨a.1,a.2,rfl,by simp⟩
 · cases h
def mkS {α:Type}(a:Nat) (n:Int) (z:α):Option (List α):=if 0<=n/\n<=9223372036854775807/\a * n.toNat<=281474976710656 then some (bO n.toNat z) else none
def mkC {α:Type}(a:Nat) (n c:Int) (z:α):Option (List α):=if 0<=n/\n<=c/\c<=9223372036854775807/\a * c.toNat<=281474976710656 then some (bO n.toNat z) else none
theorem y6 {α:Type}{b:Nat}{n c:Int}{z:α}{xs:List α}(h:mkC b n c z=some xs):0<=n/\n<=c/\c<=9223372036854775807/\b * c.toNat<=281474976710656/\xs=bO n.toNat z:=by
 unfold mkC at h
 split at h
 · rename_i a
   simp only[Option.some.injEq]at h
   exact⟨a.1,a.2.1,a.2.2.1,a.2.2.2,h.symm⟩
 · cases h
theorem zO {α:Type}{a:Nat}{n:Int}{z:α}{xs:List α}(h:mkS a n z=some xs):mkC a n n z=some xs:=by
 unfold mkS at h
 unfold mkC
 simpa using h
def appS {α:Type}(a:Nat) (xs ys:List α):Option (List α):=if(xs.length+ys.length) * a<=140737488355328/\xs.length+ys.length<=9223372036854775807 then some (xs++ys) else none
theorem xB {α:Type}{a:Nat}{xs ys zs:List α}(h:appS a xs ys=some zs):(xs.length+ys.length) * a<=140737488355328/\xs.length+ys.length<=9223372036854775807/\zs=xs++ys:=by
 unfold appS at h
 split at h
 · rename_i b
   simp only[Option.some.injEq]at h
   exact⟨b.1,b.2,h.symm⟩
 · cases h
def subS {α:Type}(xs:List α) (l h:Int):Option (List α):=if 0<=l/\l<=h/\h<=xs.length then some ((xs.take h.toNat).drop l.toNat) else none
theorem sq {α:Type}{xs ys:List α}{l h:Int}(e:subS xs l h=some ys):0<=l/\l<=h/\h<=xs.length/\ys=(xs.take h.toNat).drop l.toNat:=by
 unfold subS at e
 split at e
 · rename_i a
   simp only[Option.some.injEq]at e
   exact⟨a.1,a.2.1,a.2.2,e.symm⟩
 · cases e
theorem pJ {a:List Value}{k:Nat}(hk:a.length=k) (h0:0<k):∀m,(madeCells a.toArray (m * k)).toList=(bO m a).flatten:=by
 intro m
 apply List.ext_getElem?
 intro j
 have hL:(madeCells a.toArray (m * k)).toList[j]? =if j<m * k then some (a.toArray[j % a.toArray.size]!) else none:=by
  simp only[madeCells,Array.toList_map,Array.toList_range,List.getElem?_map,List.getElem?_range']
  split <;> simp_all
 rw[hL]
 clear hL
 induction m generalizing j with
 | zero=>simp
 | succ m b=>
  rw[List.replicate_succ,List.flatten_cons]
  by_cases hj:j<k
  · rw[List.getElem?_append_left (by omega),if_pos (by rw[Nat.succ_mul];omega)]
    simp only[List.size_toArray,hk,Nat.mod_eq_of_lt hj]
    rw[getElem!_pos a.toArray j (by simpa [hk] using hj)]
    simp[hk,hj]
  · have:=b (j-k)
    rw[List.getElem?_append_right (by omega),hk,← this]
    simp only[List.size_toArray,hk]
    rw[show j % k=(j-k) % k from by rw[Nat.mod_eq_sub_mod (by omega)]]
    by_cases h1:j<(m+1) * k
    · rw[if_pos h1,if_pos (by rw[Nat.succ_mul]at h1;omega)]
    · rw[if_neg h1,if_neg (by rw[Nat.succ_mul]at h1;omega)]
theorem qn {a:List Value}{k:Nat}(hk:a.length=k) (h0:0<k){m c:Nat}(h:m<=c):(madeCells a.toArray (c * k)).toList.take (m * k)=(bO m a).flatten:=by
 have hr:bO c a=bO m a++bO (c-m) a:=by rw[List.replicate_append_replicate,show m+(c-m)=c from by omega]
 rw[pJ hk h0,hr,List.flatten_append,List.take_append]
 have hl:((bO m a).flatten).length=m * k:=by simp[hk]
 rw[List.take_of_length_le (by omega),hl]
 simp
section
variable {P:Program}{n:Nat}{ops:Array Oper}{C:World->Prop}{N:Act->World->Prop}{r:List (Nat×Nat)}{L:Env}{κ:Col}{w:World}{i d:Nat}{o:Oper}
theorem WO.mk {α:Type}{E:Ep α}(q:Nat) (A:ops[i]? =some o) (v:gd ops L o=some true) (hd:o.dst=some d) (hb:Nat.blt d n=true){t T:TypeId}{x y:Operand}{m c:Int}{j:Nat}{z:α}{f:Value}{g:List Value}{xs:List α}{e:TypeInfo}
 (B:o.op= .makeSlice t x y) (hx:opd L x=some (.int .i64 m)) (hy:opd L y=some (.int .i64 c)) (ht:P.underlying t=some (.slice T)) (hi:P.info? T=some e) (H:e.zero=some f) (hs:e.size=E.size) (u:e.bytes=j) (I:f.cells=g.toArray) (h0:Nat.blt 0 E.size=true)
 (l:∀F S w,E.rel F S w g z) (G:mkC j m c z=some xs)
 (k:∀a c w' κ',Stp [] κ w κ' w'->Oc E T κ' w' q a c xs->C w'/\WO P n ops C N r ((d,.slice a xs.length c)::L) w'):WO P n ops C N ((i,1)::r) L w:=
 WO.l A v hd hb λa ha=>by
  have h0:=Nat.ble_eq.mp h0
  obtain⟨h1,h2,p,J,s⟩:=y6 G
  have D:=run_make (P:=P) w t T e f ht hi H .i64 .i64 m c h1 h2 (by
   have h:((e.bytes * c.toNat:Nat):Int)<=281474976710656:=by rw[u];omega
   rw[Int.natCast_mul,Int.toNat_of_nonneg (by omega)]at h
   exact h) p
  unfold Runs
  have:(execOp a.eval o).run P w= .ok (.value (.slice (some ⟨w.heap.size,0,none⟩) m.toNat c.toNat)) (w.alloc (.cells (madeCells f.cells (c.toNat * e.size)) T)):=by
   simp only[execOp,B,ha.eval hx,ha.eval hy,Sem.run_bind,D,Result.andThen_ok,Sem.run_pure]
  rw[this]
  subst s
  have hl:=E.len (l (λ_=>True) (λ_=>True) w)
  have hk:=k (some ⟨w.heap.size,0,none⟩) c.toNat _ _ (Stp.nw q (Ext.alloc w (.cells (madeCells f.cells (c.toNat * e.size)) T)))
   ⟨(bO m.toNat g).flatten,⟨by simp[hl],.inr ⟨w.heap.size,0,_,rfl,heap_alloc_new w _,by simp;omega,by unfold maxLen;omega,by rw[size_madeCells,hs];omega,by
    rw[I,hs,List.drop_zero,List.length_replicate]
    exact qn hl (by omega) (by omega)⟩⟩,λb hb=>by
     have:b=w.heap.size:=by simpa [nb] using hb
     subst this
     exact⟨by simp,by rw[pN (Nat.le_refl _)];simp⟩,LstO.replicate (l _ _ _) _⟩
  rw[List.length_replicate]at hk
  exact hk
def rlc (κ:Col) (l:List Nat) (n i:Nat):Col:=λb=>bif Nat.blt b n then(bif nin l (κ b) then κ b else i) else i
theorem kM {l:List Nat}{m i b:Nat}(h:κ b∈l):rlc κ l m i b=i:=by
 unfold rlc
 rw[mI.2 h]
 cases Nat.blt b m <;> rfl
theorem vm {l:List Nat}{m i b:Nat}(h:m<=b):rlc κ l m i b=i:=by
 have:Nat.blt b m=false:=by
  cases e:Nat.blt b m with
  | false=>rfl
  | true=>have:=Nat.ble_eq.mp e;omega
 simp[rlc,this]
theorem rP {l:List Nat}{m i b:Nat}(h:κ b∉l) (hb:b<m):rlc κ l m i b=κ b:=by
 unfold rlc
 rw[dU.2 h]
 exact oR (Nat.ble_eq.mpr hb)
theorem Stp.rl {w':World}(l:List Nat) (q:Nat) (e:Ext w w'):Stp l κ w (rlc κ l w.heap.size q) w':=⟨e.os,e.tape,e.output,e.size,λb hb hc=>⟨rP hc hb,e.block b hb⟩⟩
theorem Stp.rlT {w':World}{m:Nat}(l:List Nat) (q:Nat) (e:Tch m w w') (hm:∀b,b+1=m->κ b∈l):Stp l κ w (rlc κ l w.heap.size q) w':=
 ⟨e.os,e.tape,e.output,e.size,λb hb hc=>⟨rP hc hb,e.block b ⟨hb,λh=>hc (hm b h)⟩⟩⟩
theorem WO.blG {α:Type}{E:Ep α}(q:Nat) (l:List Nat) (O:ops[i]? =some o) (J:gd ops L o=some true) (hd:o.dst=some d) (hb:Nat.blt d n=true){t T:TypeId}{len:Nat}{parts:List (Nat×Operand)}{f:List Value}{cells:List Value}{s:Value}{g:TypeInfo}{xs:List α}
 (B:o.op= .buildSlice t len parts.toArray) (m:opds L (parts.map (·.2))=some f) (ht:P.underlying t=some (.slice T)) (hi:P.info? T=some g) (V:g.zero=some s) (hs:g.size=E.size) (F:Nat.ble (len * g.size) 16777216=true) (D:Nat.blt 0 (len * g.size)=true)
 (hp:List.zip (parts.map (·.1)) f=(f.zipIdx 0).map λx=>(x.2,x.1)) (S:f.length=len) (H:(f.flatMap λv=>v.cells.toList)=cells) (A:xs.length=len)
 (R:(f.all λv=>Nat.beq v.cells.size E.size)=true) (h0:nin l 0=true) (hl:LstO E (Zl κ w [0]) w (Zl κ w l) cells xs)
 (k:∀a c w' κ',Stp l κ w κ' w'->Gst q κ w κ' w'->Oc E T κ' w' q a c xs->C w'/\WO P n ops C N r ((d,.slice a xs.length c)::L) w'):WO P n ops C N ((i,1)::r) L w:=
 WO.l O J hd hb λj ha=>by
  have I:(parts.toArray.map λ(i,x)=>(i,j.eval x)).toList=List.zip (parts.map (·.1)) f:=by
   have h1:(parts.map (·.2)).map j.eval=f:=by simpa using ha.evals m
   rw[← h1]
   clear B m hp h1
   induction parts with
   | nil=>simp
   | cons p r W=>simpa using W
  have z:0<E.size:=by
   have y:=Nat.ble_eq.mp D
   rcases Nat.eq_zero_or_pos E.size with h | h
   · rw[hs,h]at y;simp at y
   · exact h
  have u:cells.length=len * E.size:=by rw[hl.len,A]
  have U:∀v∈f,v.cells.size=E.size:=λv m=>Nat.eq_of_beq_eq_true (List.all_eq_true.1 R v m)
  have hf:=Great.fill_whole z f ((Array.range (len * E.size)).map (s.cells[· % s.cells.size]!)) U (by simp[S])
  rw[← hp,← hs,H]at hf
  unfold Runs
  have Q:=run_buildSlice (P:=P) w t T len (parts.toArray.map λ(i,x)=>(i,j.eval x)) cells.toArray g s ht hi V (by have:=Nat.ble_eq.mp F;omega) (by have:=Nat.ble_eq.mp D;omega) (by rw[I];exact hf)
  have:(execOp j.eval o).run P w= .ok (.value (.slice (some ⟨w.heap.size,0,none⟩) len len)) (w.alloc (.cells cells.toArray T)):=by
   simp only[execOp,B,Sem.run_bind,Q,Result.andThen_ok,Sem.run_pure]
  rw[this]
  subst A
  have M:xs.length<=maxLen:=by
   have X:=Nat.ble_eq.mp F
   have:=Nat.le_mul_of_pos_right xs.length (hs ▸ z:0<g.size)
   unfold maxLen;omega
  have e:=Ext.alloc w (.cells cells.toArray T)
  have G:=Stp.rl (κ:=κ) l q e
  have K:Gst q κ w (rlc κ l w.heap.size q) (w.alloc (.cells cells.toArray T)):=⟨e.size,λb hb=>e.block b hb,λb hb=>by
   by_cases hc:κ b∈l
   · exact .inr (kM hc)
   · exact .inl (rP hc hb)⟩
  refine k _ _ _ _ G K ⟨cells,⟨u,.inr ⟨w.heap.size,0,_,rfl,heap_alloc_new w _,Nat.le_refl _,M,by simp[u],by rw[List.drop_zero];exact List.take_of_length_le (by rw[u];exact Nat.le_refl _)⟩⟩,λb hb=>?_,hl.st (Zl.st G (nin1 h0)) λb hb=>⟨⟨⟨Nat.lt_of_lt_of_le hb.1 e.size,by rw[kM hb.2];simp⟩,λh=>?_⟩,e.block b hb.1⟩⟩
  · have:b=w.heap.size:=by simpa [nb] using hb
    subst this
    exact⟨by simp,by rw[vm (Nat.le_refl _)];simp⟩
  · have h1:b=w.heap.size:=by simpa [nb] using h
    have:=hb.1
    omega
theorem WO.bl {α:Type}{E:Ep α}(q:Nat) (l:List Nat) (m:ops[i]? =some o) (g:gd ops L o=some true) (hd:o.dst=some d) (hb:Nat.blt d n=true){t T:TypeId}{len:Nat}{parts:List (Nat×Operand)}{b:List Value}{cells:List Value}{F:Value}{e:TypeInfo}{xs:List α}
 (p:o.op= .buildSlice t len parts.toArray) (A:opds L (parts.map (·.2))=some b) (ht:P.underlying t=some (.slice T)) (hi:P.info? T=some e) (D:e.zero=some F) (hs:e.size=E.size) (y:Nat.ble (len * e.size) 16777216=true) (u:Nat.blt 0 (len * e.size)=true)
 (hp:List.zip (parts.map (·.1)) b=(b.zipIdx 0).map λx=>(x.2,x.1)) (B:b.length=len) (f:(b.flatMap λv=>v.cells.toList)=cells) (j:xs.length=len)
 (z:(b.all λv=>Nat.beq v.cells.size E.size)=true) (h0:nin l 0=true) (hl:LstO E (Zl κ w [0]) w (Zl κ w l) cells xs)
 (k:∀a c w' κ',Stp l κ w κ' w'->Oc E T κ' w' q a c xs->C w'/\WO P n ops C N r ((d,.slice a xs.length c)::L) w'):WO P n ops C N ((i,1)::r) L w:=
 WO.blG q l m g hd hb p A ht hi D hs y u hp B f j z h0 hl λa c w' κ' s _ h=>k a c w' κ' s h
theorem WO.bl0 {α:Type}{E:Ep α}(q:Nat) (j:ops[i]? =some o) (g:gd ops L o=some true) (hd:o.dst=some d) (hb:Nat.blt d n=true){t T:TypeId}{e:TypeInfo}
 (l:o.op= .buildSlice t 0 #[]) (ht:P.underlying t=some (.slice T)) (hi:P.info? T=some e) (hs:e.size=E.size)
 (k:∀a c w' κ',Stp [] κ w κ' w'->Oc E T κ' w' q a c ([]:List α)->C w'/\WO P n ops C N r ((d,.slice a ([]:List α).length c)::L) w'):WO P n ops C N ((i,1)::r) L w:=
 WO.l j g hd hb λf ha=>by
  unfold Runs
  have:(execOp f.eval o).run P w= .ok (.value (.slice (some ⟨w.heap.size,0,none⟩) 0 0)) (w.alloc (.cells #[] T)):=by
   simp[execOp,l,Instr.buildSlice,run_underlying ht,sizeOf,typeInfo,hi,Instr.fill,newRow,Array.range_zero']
  rw[this]
  exact k _ _ _ _ (Stp.nw q (Ext.alloc _ _)) ⟨[],⟨by simp,.inr ⟨w.heap.size,0,_,rfl,heap_alloc_new w _,Nat.le_refl _,by simp,by simp,by simp⟩⟩,λb hb=>by
   have:b=w.heap.size:=by simpa [nb] using hb
   subst this
   exact⟨by simp,by rw[pN (Nat.le_refl _)];simp⟩,rfl⟩
end
def SrcO {α:Type}(E:Ep α) (F S:Nat->Prop) (w:World) (a:Option Addr) (c:Nat) (xs:List α):Prop:=
 ∃d,LstO E F w S d xs/\(a=none->xs=[]/\c=0)/\∀b,a=some b->∀(j:Nat) u,d[j]? =some u->w.cell? (b.add j)=some u
theorem Ow.src {α:Type}{E:Ep α}{T:TypeId}{F S:Nat->Prop}{w:World}{a:Option Addr}{c:Nat}{xs:List α}(h:Ow E T F S w a c xs):SrcO E F S w a c xs:=by
 obtain⟨k,h1,h2,l⟩:=h
 refine⟨k,l.st (λb hb=>⟨hb,rfl⟩) (λb hb=>⟨hb.1,rfl⟩),λe=>?_,λp e j u f=>?_⟩
 · rcases h1.2 with ⟨_,hn,hc⟩ | ⟨g,o,i,d,_⟩
   · exact⟨List.eq_nil_of_length_eq_zero hn,hc⟩
   · rw[e]at d;cases d
 · rcases h1.2 with ⟨d,_⟩ | ⟨g,o,i,d,n,_,_,_,m⟩
   · rw[d]at e;cases e
   · rw[d]at e
     obtain rfl:=Option.some.inj e
     rw[← m,List.getElem?_take]at f
     split at f
     · rw[addb,cell_of_row w g _ i T (0,0) n]
       rw[List.getElem?_drop]at f
       simpa using f
     · cases f
theorem SrcO.no {α:Type}{E:Ep α}(hE:E.No){F F' S:Nat->Prop}{w:World}{a:Option Addr}{c:Nat}{xs:List α}(h:SrcO E F S w a c xs):SrcO E F' S w a c xs:=by
 obtain⟨b,h1,h2⟩:=h
 exact⟨b,h1.no hE,h2⟩
theorem pH {α:Type}{E:Rp α}{S:Nat->Prop}{w:World}{E':Ep α}{F:Nat->Prop}(hE:∀cs x,E.rel S w cs x->E'.rel F (λ_=>False) w cs x) (l:E'.size=E.size) (c:Nat->Option Value):∀(xs:List α) (k:Nat),
 (∀(i:Nat) x,xs[i]? =some x->∃cs:List Value,(∀(j:Nat) v,cs[j]? =some v->c ((k+i) * E.size+j)=some v)/\E.rel S w cs x) ->
 ∃a,LstO E' F w (λ_=>False) a xs/\∀(j:Nat) u,a[j]? =some u->c (k * E.size+j)=some u
 | [],_,_=>⟨[],rfl,λj u h=>by simp at h⟩
 | x::r,k,h=>by
  obtain⟨cs,h1,h2⟩:=h 0 x rfl
  obtain⟨a,d,e⟩:=pH hE l c r (k+1) λi y hy=>by
   obtain⟨c2,f,g⟩:=h (i+1) y (by simpa using hy)
   exact⟨c2,λj v m=>by rw[show k+1+i=k+(i+1) from by omega];exact f j v m,g⟩
  refine⟨cs++a,⟨cs,a,λ_=>False,λ_=>False,rfl,λ_ h=>h.elim,λ_ h=>h,hE _ _ h2,d⟩,λj u b=>?_⟩
  have hl:=E.len h2
  by_cases hj:j<cs.length
  · rw[List.getElem?_append_left hj]at b
    exact h1 j u b
  · rw[List.getElem?_append_right (by omega)]at b
    have:=e _ u b
    rw[show k * E.size+j=(k+1) * E.size+(j-cs.length) from by rw[Nat.add_mul];omega]
    exact this
theorem Sl.srcG {α:Type}{E:Rp α}{S:Nat->Prop}{w:World}{E':Ep α}{F:Nat->Prop}{a:Option Addr}{c:Nat}{xs:List α}(hE:∀cs x,E.rel S w cs x->E'.rel F (λ_=>False) w cs x) (p:E'.size=E.size) (h:Sl E S w a c xs):SrcO E' F (λ_=>False) w a c xs:=by
 rcases h.2.2 with ⟨e,hc⟩ | ⟨b,o,e,_,n⟩
 · subst e
   exact⟨[],rfl,λha=>⟨rfl,hc ha⟩,λ_ _ j u d=>by simp at d⟩
 · obtain⟨f,g,k⟩:=pH hE p (λj=>w.cell? ⟨b,o+j,none⟩) xs 0 λi x hx=>by
    obtain⟨cs,l,m⟩:=n i x hx
    exact⟨cs,λj v q=>by simpa [Nat.add_assoc] using l j v q,m⟩
   refine⟨f,g,λha=>(by rw[e]at ha;cases ha),λr ha j u d=>?_⟩
   rw[e]at ha
   obtain rfl:=Option.some.inj ha
   have:=k j u d
   rw[addb]
   simpa using this
theorem Sl.srcP {α:Type}{E:Ep α}(hE:E.Pu){S F:Nat->Prop}{w:World}{a:Option Addr}{c:Nat}{xs:List α}(h:Sl E.rp S w a c xs):SrcO E F (λ_=>False) w a c xs:=h.srcG (λ_ _ h=>hE h) E.rps.symm
theorem oy {P:Program}{w:World}(t ty e:TypeId) (i:TypeInfo) (ht:P.underlying t=some (.slice e)) (hi:P.info? e=some i) (a:Option Addr) (n c:Nat) (h:n<=c):
 (Builtin.append_ #[t,t] ty #[.slice a n c,.slice none 0 0]).run P w= .ok (.slice a n c) w:=by
 cases a with
 | none=>simp[Builtin.append_,run_underlying ht,sizeOf,typeInfo,hi,Builtin.lenOf,Builtin.firstCells,h]
 | some p=>simp[Builtin.append_,run_underlying ht,sizeOf,typeInfo,hi,Builtin.lenOf,Builtin.firstCells,h,storeCells]
theorem qo {P:Program}(w:World) (t ty e:TypeId) (i:TypeInfo) (ht:P.underlying t=some (.slice e)) (hi:P.info? e=some i)
 (g o d k:Nat) (f:Array Value) (p:w.heap[g]? =some (.cells f e (0,0)))
 (a:Addr) (m c:Nat) (b:List Value) (hl:b.length=m * i.size) (q:∀(j:Nat) u,b[j]? =some u->w.cell? (a.add j)=some u) (h1:∀u∈b,u.oneCell'=true)
 (r:d+m<=k) (n:o+d * i.size+b.length<=f.size):
 (Builtin.append_ #[t,t] ty #[.slice (some ⟨g,o,none⟩) d k,.slice (some a) m c]).run P w=
  .ok (.slice (some ⟨g,o,none⟩) (d+m) k) (w.setRow g (f.toList.take (o+d * i.size)++b++f.toList.drop (o+d * i.size+b.length)).toArray):=by
 have hf:=run_firstCells_some (P:=P) w i.size m a m c b hl q
 have l:=run_storeCells_at P g (o+d * i.size) e b 0 f w p (by simpa using n) h1
 simp only[Nat.add_zero]at l
 simp[Builtin.append_,run_underlying ht,sizeOf,typeInfo,hi,Builtin.lenOf,r,hf,addb,l]
theorem yt {P:Program}{w:World}{t ty T:TypeId}{d:TypeInfo}{r:Value}{v B:Nat}(ht:P.underlying t=some (.slice T)) (hi:P.info? T=some d) (F:d.zero=some r) (hs:d.size=v) (G:d.bytes=B) (O:r.cells.size=v)
 {a:Option Addr} {k c:Nat} {l:List Value} (p:OwR w T v a k c l) {ay:Option Addr} {m cy:Nat} {e:List Value} (hl:e.length=m * v) (M:ay=none->m=0/\cy=0)
 (hc:∀f,ay=some f->∀(j:Nat) u,e[j]? =some u->w.cell? (f.add j)=some u) (h1:∀u∈e,u.oneCell'=true) (U:k+m<=9223372036854775807) (hb:(k+m) * B<=140737488355328):
 ∃x C w',(Builtin.append_ #[t,t] ty #[.slice a k c,.slice ay m cy]).run P w= .ok (.slice x (k+m) C) w'/\OwR w' T v x (k+m) C (l++e)/\Tch (nb a) w w'/\(nb x=nb a\/w.heap.size<nb x):=by
 subst hs G
 have J:k<=c:=by
  rcases p.2 with ⟨_,h2,Q⟩ | ⟨g,o,n,_,_,h2,_⟩ <;> omega
 have z:(l++e).length=(k+m) * d.size:=by rw[z5,p.1,hl,Nat.add_mul]
 have K:k+m<=maxLen:=by unfold maxLen;omega
 have D:∀(i:Nat),i<k+m ->
  OwR (w.drew.alloc (.cells (l.toArray++e.toArray++Builtin.zeroCells r.cells (grownCap w (k+m) i T-(k+m))) T)) T d.size (some ⟨w.heap.size,0,none⟩) (k+m) (grownCap w (k+m) i T) (l++e) /\
  Tch (nb a) w (w.drew.alloc (.cells (l.toArray++e.toArray++Builtin.zeroCells r.cells (grownCap w (k+m) i T-(k+m))) T)):=by
  intro i V
  have I:=grownCap_ge w (k+m) i T
  refine⟨⟨z,.inr ⟨w.heap.size,0,_,rfl,heap_alloc_new w.drew _,I,grownCap_le_maxLen w (k+m) i T K,?_,?_⟩⟩,⟨rfl,rfl,rfl,by simp,λb hb=>heap_alloc_old w.drew _ hb.1⟩⟩
  · simp only[Array.size_append,List.size_toArray,size_zeroCells,O,p.1,hl,← Nat.add_mul]
    rw[show k+m+(grownCap w (k+m) i T-(k+m))=grownCap w (k+m) i T from by omega]
    omega
  · simp only[Array.toList_append,List.append_assoc,List.drop_zero]
    rw[← List.append_assoc,← z]
    exact List.take_left
 cases ay with
 | none=>
  obtain⟨rfl,rfl⟩:=M rfl
  have hn:e=[]:=List.eq_nil_of_length_eq_zero (by simpa using hl)
  subst hn
  exact⟨a,c,w,oy t ty T d ht hi a k c J,by simpa using p,Fr.refl _ _,.inl rfl⟩
 | some f=>
  rcases p.2 with ⟨rfl,rfl,rfl⟩ | ⟨g,o,n,rfl,y,_,H,S,E⟩
  · have hx:l=[]:=List.eq_nil_of_length_eq_zero (by simpa using p.1)
    subst hx
    by_cases hm:m=0
    · subst hm
      have hn:e=[]:=List.eq_nil_of_length_eq_zero (by simpa using hl)
      subst hn
      refine⟨none,0,w,?_,⟨by simp,.inl ⟨rfl,rfl,rfl⟩⟩,Fr.refl _ _,.inl rfl⟩
      simp[Builtin.append_,run_underlying ht,sizeOf,typeInfo,hi,Builtin.lenOf,Builtin.firstCells,loadCells,loadCellsFrom]
    · have hr:=run_append_nil (P:=P) w t ty T d r ht hi F f m cy e hl (hc f rfl) (by omega) (by omega) (by have hb:=hb;simp only[Nat.zero_add]at hb;omega)
      have q:=D 0 (by omega)
      simp only[Nat.zero_add,List.nil_append,Array.empty_append]at q ⊢
      exact⟨_,_,_,hr,q.1,q.2,.inr (by simp[nb])⟩
  · by_cases A:k+m<=c
    · have L:(k+m) * d.size<=c * d.size:=Nat.mul_le_mul_right _ A
      rw[Nat.add_mul]at L
      have hr:=qo (P:=P) w t ty T d ht hi g o k c n y f m cy e hl (hc f rfl) h1 A (by omega)
      refine⟨_,_,_,hr,⟨z,.inr ⟨g,o,_,rfl,setRow_heap w g n _ T _ y,A,H,?_,?_⟩⟩,Tch.setRow w g _,.inl rfl⟩
      · simp only[List.size_toArray,z5,z9,List.length_drop,Array.length_toList]
        omega
      · rw[← E]
        have R:n.toList.length=n.size:=by simp
        generalize n.toList=cl at *
        simp only[]
        rw[List.append_assoc,List.drop_append,List.drop_take,z9,show o-min (o+k * d.size) cl.length=0 from by omega,List.drop_zero,show o+k * d.size-o=k * d.size from by omega,← List.append_assoc]
        refine List.take_left' ?_
        simp only[z5,z9,List.length_drop,hl,Nat.add_mul]
        omega
    · have N:∀(j:Nat) u,l[j]? =some u->w.cell? ((⟨g,o,none⟩:Addr).add j)=some u:=λj u s=>by
       rw[← E,List.getElem?_take]at s
       split at s
       · rw[addb,cell_of_row w g _ n T (0,0) y]
         rw[List.getElem?_drop]at s
         simpa using s
       · cases s
      have hr:=run_append_grow (P:=P) w t ty T d r ht hi F ⟨g,o,none⟩ k c l p.1 N f m cy e hl (hc f rfl) (by omega) (by omega) (growslice_fits (by omega) hb)
      have q:=D c (by omega)
      exact⟨_,_,_,hr,q.1,q.2,.inr (by simp[nb])⟩
section
variable {P:Program}{n:Nat}{ops:Array Oper}{C:World->Prop}{N:Act->World->Prop}{r:List (Nat×Nat)}{L:Env}{κ:Col}{w:World}{i d:Nat}{o:Oper}
theorem WO.app {α:Type}{E:Ep α}(q:Nat) (l:List Nat) (ag:ops[i]? =some o) (aa:gd ops L o=some true) (hd:o.dst=some d) (hb:Nat.blt d n=true){t T:TypeId}{x y:Operand}{z:Nat}{Q:Value}{p:TypeInfo}
 {a ay:Option Addr} {c cy K M:Nat} {xs ys zs:List α} {Sy:Nat->Prop} (ah:o.op= .call { callee:= .builtin .append,args:= #[x,y],argTypes:= #[t,t] }) (hx:opd L x=some (.slice a K c)) (ad:K=xs.length) (hy:opd L y=some (.slice ay M cy)) (ae:M=ys.length)
 (ht:P.underlying t=some (.slice T)) (ab:P.info? T=some p) (am:p.zero=some Q) (hs:p.size=E.size) (X:p.bytes=z) (an:Q.cells.size=E.size)
 (ai:Oc E T κ w q a c xs) (al:SrcO E (Zl κ w [0]) Sy w ay cy ys) (j:∀b,Sy b->Zl κ w l b/\κ b≠q) (U:appS z xs ys=some zs) (h0:nin (q::l) 0=true)
 (k:∀f g w' κ',Stp (q::l) κ w κ' w'->Oc E T κ' w' q f g zs->C w'/\WO P n ops C N r ((d,.slice f zs.length g)::L) w'):WO P n ops C N ((i,1)::r) L w:=
 WO.l ag aa hd hb λR ha=>by
  obtain⟨A,aj,s,ac⟩:=ai
  obtain⟨V,W,J⟩:=xB U
  obtain⟨O,u,af,Y⟩:=al
  subst ad ae
  obtain⟨f,g,w',ak,H,v,F⟩:=yt (P:=P) (ty:=o.type) ht ab am hs X an aj (ay:=ay) (cy:=cy) u.len (λe=>by obtain⟨h1,h2⟩:=af e;exact⟨by rw[h1];rfl,h2⟩) Y u.one W V
  unfold Runs
  have Z:(execOp R.eval o).run P w= .ok (.value (.slice f (xs.length+ys.length) g)) w':=by
   simp[execOp,ah,ha.eval hx,ha.eval hy,resolve,invoke,builtin,ak]
  rw[Z]
  have D:zs.length=xs.length+ys.length:=by rw[J,z5]
  have I:Stp (q::l) κ w (rlc κ (q::l) w.heap.size q) w':=Stp.rlT _ _ v λb hb=>by
   have:=(s b hb).2
   simp only[List.mem_cons,List.not_mem_nil,or_false]at this
   rw[this];simp
  have hk:=k f g w' _ I ⟨A++O,by rw[D];exact H,λb hb=>?_,?_⟩
  · rw[D]at hk;exact hk
  · refine⟨H.lt hb,?_⟩
    rcases F with e | e
    · have h1:=(s b (by rw[← e];exact hb)).2
      simp only[List.mem_cons,List.not_mem_nil,or_false]at h1
      rw[kM (by rw[h1];simp)];simp
    · rw[vm (by omega)];simp
  · rw[J]
    have m:∀b,Zl κ w (q::l) b->b+1≠nb a->(Zl (rlc κ (q::l) w.heap.size q) w' [q] b/\b+1≠nb f)/\w'.heap[b]? =w.heap[b]?:=λb hb hn=>by
     have h1:=v.block b ⟨hb.1,hn⟩
     refine⟨⟨⟨Nat.lt_of_lt_of_le hb.1 v.size,by rw[kM hb.2];simp⟩,λh=>?_⟩,h1⟩
     rcases F with e | e
     · exact hn (by rw[← e];exact h)
     · have:=hb.1;omega
    have B:=Zl.st I (nin1 h0)
    have S:LstO E (Zl (rlc κ (q::l) w.heap.size q) w' [0]) w' (λb=>Zl κ w [q] b/\b+1≠nb a) A xs:=ac.st B λb hb=>⟨hb,(m b (Zl.mono (by simp) hb.1) hb.2).2⟩
    have G:∀b,b+1=nb a->κ b=q:=λb hb=>by simpa using (s b hb).2
    have hB:LstO E (Zl (rlc κ (q::l) w.heap.size q) w' [0]) w' Sy O ys:=u.st B λb hb=>⟨hb,(m b (Zl.mono (λc hc=>List.mem_cons_of_mem _ hc) (j b hb).1) λh=>(j b hb).2 (G b h)).2⟩
    refine LstO.append hB (λb hb=>⟨(m b (Zl.mono (by simp) hb.1) hb.2).1,λh=>(j b h).2 ?_⟩) (λb hb=>(m b (Zl.mono (λc hc=>List.mem_cons_of_mem _ hc) (j b hb).1) λh=>(j b hb).2 (G b h)).1) S
    simpa using hb.1.2
theorem bZ {p:Nat->Prop}:∀b:Nat,(λ_=>False) b->p b:=λ_ h=>h.elim
theorem cZ {j q:Nat}(h:Nat.beq j q=false):∀b,Zl κ w [j] b->Zl κ w [j] b/\κ b≠q:=λb hb=>⟨hb,λe=>by
 have h1:κ b=j:=by simpa using hb.2
 rw[← h1,e,Nat.beq_refl]at h;cases h⟩
theorem mo {t:TypeId}{g off:Nat}{T:TypeId}{a:Array Value}{v:Value}{cs:List Value}{k:Nat}(d:w.heap[g]? =some (.cells a T (0,0))) (e:∀w,(sizeOf t).run P w= .ok k w) (c:v.cells=cs.toArray) (hk:cs.length=k)
 (h1:∀u∈cs,u.oneCell'=true) (f:off+k<=a.size):(Instr.storeAt t (.pointer (some ⟨g,off,none⟩)) v).run P w= .ok () (w.setRow g (a.toList.take off++cs++a.toList.drop (off+k)).toArray):=by
 subst hk
 have b:=run_storeCells_at P g off T cs 0 a w d (by omega) h1
 simp only[Nat.add_zero]at b
 simp[Instr.storeAt,Instr.sureAddr,storeVar,e,c,b]
theorem WO.stI {α:Type}{E:Ep α}(q:Nat) (l:List Nat) (ac:ops[i]? =some o) (Z:gd ops L o=some true) (hd:o.dst=none){t T:TypeId}{x y:Operand}{a:Option Addr}{c j R:Nat}{xs zs:List α}{v:Value}{cs:List Value}{e:α}{ix:Int}
 (ad:o.op= .store t x y) (hx:opd L x=some (.pointer (some (aAt a j)))) (hj:j=ix.toNat * E.size) (hy:opd L y=some v) (Y:v.cells=cs.toArray) (ai:∀w,(sizeOf t).run P w= .ok R w) (ag:R=E.size) (f:E.rel (Zl κ w [0]) (Zl κ w l) w cs e) (K:nin l q=true) (h0:nin (q::l) 0=true)
 (ae:Oc E T κ w q a c xs) (O:setI xs ix e=some zs)
 (k:∀w' κ',Stp (q::l) κ w κ' w'->Oc E T κ' w' q a c zs->C w'/\WO P n ops C N r L w'):WO P n ops C N ((i,1)::r) L w:=
 WO.ln ac Z hd λS ha=>by
  subst hj ag
  obtain⟨ap,aq,Q,aj⟩:=lU O
  obtain⟨B,u,V,J⟩:=ae
  rcases u.2 with ⟨rfl,ak,rfl⟩ | ⟨g,of,d,rfl,H,aa,X,al,ah⟩
  · omega
  · have I:ix.toNat<xs.length:=by omega
    have an:ix.toNat * E.size+E.size<=xs.length * E.size:=by
     have:=Nat.mul_le_mul_right E.size (show ix.toNat+1<=xs.length from I)
     rwa [Nat.add_mul,Nat.one_mul]at this
    have ao:xs.length * E.size<=c * E.size:=Nat.mul_le_mul_right _ aa
    have F:aAt (some ⟨g,of,none⟩) (ix.toNat * E.size)=⟨g,of+ix.toNat * E.size,none⟩:=addb _ _ _
    have M:=mo (P:=P) (t:=t) (off:=of+ix.toNat * E.size) H ai Y (E.len f) (E.one f) (by omega)
    unfold Runs
    have:(execOp S.eval o).run P w= .ok .skip (w.setRow g (d.toList.take (of+ix.toNat * E.size)++cs++d.toList.drop (of+ix.toNat * E.size+E.size)).toArray):=by
     simp only[execOp,ad,ha.eval hx,ha.eval hy,F,Sem.run_bind,M,Result.andThen_ok,Sem.run_pure]
    rw[this]
    have s:κ g=q:=by simpa using (V g rfl).2
    have ht:Tch (g+1) w (w.setRow g (d.toList.take (of+ix.toNat * E.size)++cs++d.toList.drop (of+ix.toNat * E.size+E.size)).toArray):=Tch.setRow w g _
    have A:Stp (q::l) κ w (rlc κ (q::l) w.heap.size q) (w.setRow g (d.toList.take (of+ix.toNat * E.size)++cs++d.toList.drop (of+ix.toNat * E.size+E.size)).toArray):=Stp.rlT _ _ ht λb hb=>by
     have:b=g:=by omega
     rw[this,s];simp
    refine k _ _ A ⟨B.take (ix.toNat * E.size)++cs++B.drop (ix.toNat * E.size+E.size),?_,λb hb=>?_,?_⟩
    · have W:=u.1
      have m:=E.len f
      rw[aj]
      clear O Q M this A ht k hx F J
      generalize ix.toNat * E.size=p at *
      refine⟨?_,.inr ⟨g,of,_,rfl,setRow_heap w g d _ T _ H,by omega,X,?_,?_⟩⟩
      · simp only[z5,z9,List.length_drop,W,m];omega
      · simp only[List.size_toArray,z5,z9,List.length_drop,Array.length_toList,m];omega
      · rw[← ah]
        generalize xs.length * E.size=z at *
        have am:d.toList.length=d.size:=by simp
        generalize d.toList=cl at *
        simp only[]
        rw[List.append_assoc,List.drop_append,List.drop_take,z9,show of-min (of+p) cl.length=0 from by omega,List.drop_zero,show of+p-of=p from by omega,List.take_append,z9,List.take_take,List.length_drop,
         show min z p=p from by omega,show min p (cl.length-of)=p from by omega,List.take_append,List.take_of_length_le (l:=cs) (by omega),List.take_drop,List.append_assoc,m,List.drop_take,show of+p-of=p from by omega,List.take_take,show min p z=p from by omega,List.drop_take,List.drop_drop,show of+(p+E.size)=of+p+E.size from by omega,show z-(p+E.size)=z-p-E.size from by omega]
    · have:b=g:=by simpa [nb] using hb
      subst this
      exact⟨by simpa using u.lt rfl,by rw[kM (by rw[s];simp)];simp⟩
    · rw[Q]
      have D:=Zl.st A (nin1 h0)
      have G:∀b,κ b∈l->b≠g:=λb hb e=>by rw[e,s]at hb;exact dU.1 K hb
      have af:E.rel (Zl (rlc κ (q::l) w.heap.size q) (w.setRow g (d.toList.take (of+ix.toNat * E.size)++cs++d.toList.drop (of+ix.toNat * E.size+E.size)).toArray) [0]) (Zl κ w l) (w.setRow g (d.toList.take (of+ix.toNat * E.size)++cs++d.toList.drop (of+ix.toNat * E.size+E.size)).toArray) cs e:=
       E.st D (λb hb=>⟨hb,ht.block b ⟨hb.1,by have:=G b hb.2;omega⟩⟩) f
      have ab:=J.st (S':=λb=>Zl κ w [q] b/\b+1≠nb (some ⟨g,of,none⟩)) D λb hb=>⟨hb,ht.block b ⟨hb.1.1,hb.2⟩⟩
      have U:∀b,(Zl κ w [q] b/\b+1≠nb (some ⟨g,of,none⟩))->rlc κ (q::l) w.heap.size q b∈[q]:=λb hb=>by
       have h1:κ b=q:=by simpa using hb.1.2
       rw[kM (by rw[h1];simp)];simp
      have hB:∀b,Zl κ w l b->rlc κ (q::l) w.heap.size q b∈[q]:=λb hb=>by
       rw[kM (List.mem_cons_of_mem _ hb.2)];simp
      refine LstO.set af (λb hb=>⟨⟨⟨by simpa using hb.1.1,U b hb⟩,hb.2⟩,λh=>?_⟩) (λb hb=>⟨⟨by simpa using hb.1,hB b hb⟩,?_⟩) ab _ I
      · have h1:κ b=q:=by simpa using hb.1.2
        exact dU.1 K (h1 ▸ h.2)
      · have:=G b hb.2
        simp only[nb];omega
theorem WO.stB (q:Nat) (p:ops[i]? =some o) (c:gd ops L o=some true) (hd:o.dst=none){t T:TypeId}{x y:Operand}{b off a:Nat}{v:Value}{cs vc cs':List Value}
 (s:o.op= .store t x y) (hx:opd L x=some (.pointer (some ((⟨b,0,none⟩:Addr).add off)))) (hy:opd L y=some v) (B:v.cells=vc.toArray) (D:∀w,(sizeOf t).run P w= .ok a w) (hl:vc.length=a) (h1:(vc.all λu=>u.oneCell')=true)
 (hb:Bc κ w q b T cs) (m:Nat.ble (off+a) cs.length=true) (l:cs.take off++vc++cs.drop (off+a)=cs')
 (k:∀w',Stp [q] κ w κ w'->Bc κ w' q b T cs'->C w'/\WO P n ops C N r L w'):WO P n ops C N ((i,1)::r) L w:=
 WO.ln p c hd λf ha=>by
  have j:(⟨b,0,none⟩:Addr).add off=⟨b,off,none⟩:=by rw[addb,Nat.zero_add]
  have d:w.heap[b]? =some (.cells cs.toArray T (0,0)):=hb.bx
  have z:=mo (P:=P) (t:=t) (off:=off) d D B hl (λu A=>List.all_eq_true.1 h1 u A) (by simpa using Nat.ble_eq.mp m)
  unfold Runs
  have:(execOp f.eval o).run P w= .ok .skip (w.setRow b cs'.toArray):=by
   simp only[execOp,s,ha.eval hx,ha.eval hy,j,Sem.run_bind,z,Result.andThen_ok,Sem.run_pure,l]
  rw[this]
  exact k _ ⟨rfl,rfl,rfl,by simp,λg _ c=>⟨rfl,setRow_other w b g _ λe=>c (by rw[e,hb.col];simp)⟩⟩ ⟨setRow_heap w b _ _ T _ d,hb.col⟩
theorem WO.stB0 (q:Nat) (e:ops[i]? =some o) (d:gd ops L o=some true) (hd:o.dst=none){t T:TypeId}{x y:Operand}{b a:Nat}{v:Value}{cs vc:List Value}
 (f:o.op= .store t x y) (hx:opd L x=some (.pointer (some ⟨b,0,none⟩))) (hy:opd L y=some v) (g:v.cells=vc.toArray) (j:∀w,(sizeOf t).run P w= .ok a w) (hl:vc.length=a) (h1:(vc.all λu=>u.oneCell')=true)
 (hb:Bc κ w q b T cs) (c:cs.length=a)
 (k:∀w',Stp [q] κ w κ w'->Bc κ w' q b T vc->C w'/\WO P n ops C N r L w'):WO P n ops C N ((i,1)::r) L w:=
 WO.stB q (off:=0) e d hd f (by rw[addb];exact hx) hy g j hl h1 hb (Nat.ble_eq.mpr (by omega)) (by simp[c]) k
end
def LstH {α:Type}(E:Ep α) (F:Nat->Prop) (w:World) (cs:List Value):Nat->(Nat->Prop)->List Value->List α->Prop
 | _,_,_,[]=>False
 | 0,S,cells,_::r=>∃c2,cells=cs++c2/\cs.length=E.size/\LstO E F w S c2 r
 | n+1,S,cells,x::r=>∃c1 c2,∃c a:Nat->Prop,cells=c1++c2/\(∀b,c b->S b/\¬a b)/\(∀b,a b->S b)/\E.rel F c w c1 x/\LstH E F w cs n a c2 r
section
variable {α:Type}{E:Ep α}{F F':Nat->Prop}{w w':World}{cs:List Value}
theorem LstH.st (a:∀b,F b->F' b/\w'.heap[b]? =w.heap[b]?):∀{n:Nat}{xs:List α}{S S':Nat->Prop}{cells:List Value},(∀b,S b->S' b/\w'.heap[b]? =w.heap[b]?)->LstH E F w cs n S cells xs->LstH E F' w' cs n S' cells xs
 | _,[],_,_,_,_,h=>by cases ‹Nat› <;> exact h.elim
 | 0,_::_,S,S',_,hS,⟨c2,e,h0,h⟩=>⟨c2,e,h0,h.st a hS⟩
 | n+1,_::_,S,S',_,hS,⟨c1,c2,S1,S2,e,s1,s2,h1,h2⟩=>⟨c1,c2,S1,S2,e,λb hb=>⟨(hS b (s1 b hb).1).1,(s1 b hb).2⟩,λb hb=>(hS b (s2 b hb)).1,
  E.st a (λb hb=>⟨hb,(hS b (s1 b hb).1).2⟩) h1,LstH.st a (λb hb=>⟨hb,(hS b (s2 b hb)).2⟩) h2⟩
theorem LstO.take1:∀{n:Nat}{xs:List α}{S:Nat->Prop}{cells:List Value}{x:α},LstO E F w S cells xs->xs[n]? =some x ->
 ∃cs,∃a Sx:Nat->Prop,LstH E F w cs n a cells xs/\E.rel F Sx w cs x/\(∀b,a b->S b/\¬Sx b)/\(∀b,Sx b->S b)
 | n,[],_,_,_,_,h=>by simp at h
 | 0,y::r,S,_,x,⟨c1,c2,S1,S2,e,s1,s2,h1,h2⟩,h=>by
  simp only[List.getElem?_cons_zero,Option.some.injEq]at h
  subst h
  exact⟨c1,S2,S1,⟨c2,e,E.len h1,h2⟩,h1,λb hb=>⟨s2 b hb,λh=>(s1 b h).2 hb⟩,λb hb=>(s1 b hb).1⟩
 | n+1,y::r,S,_,x,⟨c1,c2,S1,S2,e,s1,s2,h1,h2⟩,h=>by
  obtain⟨cs,a,Sx,f,g,c,d⟩:=h2.take1 (n:=n) (by simpa using h)
  refine⟨cs,λb=>S1 b\/a b,Sx,⟨c1,c2,S1,a,e,λb hb=>⟨.inl hb,λh=>(s1 b hb).2 (c b h).1⟩,λb hb=> .inr hb,h1,f⟩,g,λb hb=>?_,λb hb=>s2 b (d b hb)⟩
  rcases hb with hb | hb
  · exact⟨(s1 b hb).1,λh=>(s1 b hb).2 (d b h)⟩
  · exact⟨s2 b (c b hb).1,(c b hb).2⟩
theorem LstH.put {y:α}{Sy:Nat->Prop}{cs':List Value}(hy:E.rel F Sy w cs' y):∀{n:Nat}{xs:List α}{S S':Nat->Prop}{cells:List Value},LstH E F w cs n S cells xs->(∀b,S b->S' b/\¬Sy b)->(∀b,Sy b->S' b) ->
 LstO E F w S' (cells.take (n * E.size)++cs'++cells.drop (n * E.size+E.size)) (xs.set n y)
 | _,[],_,_,_,h,_,_=>by cases ‹Nat› <;> exact h.elim
 | 0,x::r,S,S',_,⟨c2,e,h0,h⟩,hs,hsy=>by
  refine⟨cs',c2,Sy,S,?_,λb hb=>⟨hsy b hb,λh=>(hs b h).2 hb⟩,λb hb=>(hs b hb).1,hy,h⟩
  rw[e]
  simp[← h0]
 | n+1,x::r,S,S',_,⟨c1,c2,S1,S2,e,s1,s2,h1,h2⟩,hs,hsy=>by
  have hl:=E.len h1
  refine⟨c1,_,S1,λb=>S2 b\/Sy b,?_,λb hb=>⟨(hs b (s1 b hb).1).1,λh=>h.elim (s1 b hb).2 (hs b (s1 b hb).1).2⟩,λb hb=>hb.elim (λh=>(hs b (s2 b h)).1) (hsy b),h1,
   LstH.put hy h2 (λb hb=>⟨.inl hb,(hs b (s2 b hb)).2⟩) (λb hb=> .inr hb)⟩
  rw[e,show(n+1) * E.size=c1.length+n * E.size from by rw[hl,Nat.add_mul];omega,List.take_append,List.take_of_length_le (by omega),show c1.length+n * E.size-c1.length=n * E.size from by omega,
   show c1.length+n * E.size+E.size=c1.length+(n * E.size+E.size) from by omega,List.drop_append,List.drop_of_length_le (l:=c1) (by omega)]
  simp[List.append_assoc]
theorem LstH.cs_at:∀{n:Nat}{xs:List α}{S:Nat->Prop}{cells:List Value},LstH E F w cs n S cells xs->cs.length=E.size/\n<xs.length/\cells.take (n * E.size)++cs++cells.drop (n * E.size+E.size)=cells
 | _,[],_,_,h=>by cases ‹Nat› <;> exact h.elim
 | 0,x::r,S,_,⟨c2,e,h0,h⟩=>by
  refine⟨h0,by simp,?_⟩
  rw[e];simp[← h0]
 | n+1,x::r,S,_,⟨c1,c2,S1,S2,e,s1,s2,h1,h2⟩=>by
  have hl:=E.len h1
  obtain⟨a,b,c⟩:=h2.cs_at
  refine⟨a,by simpa using b,?_⟩
  rw[e,show(n+1) * E.size=c1.length+n * E.size from by rw[hl,Nat.add_mul];omega,List.take_append,List.take_of_length_le (l:=c1) (by omega),show c1.length+n * E.size-c1.length=n * E.size from by omega,
   show c1.length+n * E.size+E.size=c1.length+(n * E.size+E.size) from by omega,List.drop_append,List.drop_of_length_le (l:=c1) (by omega)]
  simp only[List.nil_append,List.append_assoc,show c1.length+(n * E.size+E.size)-c1.length=n * E.size+E.size from by omega]
  congr 1
  rw[← List.append_assoc];exact c
end
def Hole {α:Type}(E:Ep α) (T:TypeId) (κ:Col) (w:World) (i:Nat) (a:Option Addr) (c:Nat) (xs:List α) (ix:Int) (cs:List Value):Prop:=
 0<=ix/\∃d,OwR w T E.size a xs.length c d/\(∀b,b+1=nb a->Zl κ w [i] b)/\LstH E (Zl κ w [0]) w cs ix.toNat (λb=>Zl κ w [i] b/\b+1≠nb a) d xs
section
variable {α:Type}{E:Ep α}{T:TypeId}{X:List Nat}{κ κ':Col}{w w':World}{i j:Nat}{a:Option Addr}{c:Nat}{xs:List α}{ix:Int}{cs:List Value}
theorem Hole.stp (h:Hole E T κ w i a c xs ix cs) (s:Stp X κ w κ' w') (h0:nin X 0=true:=by exact rfl) (j:nin X i=true:=by exact rfl):Hole E T κ' w' i a c xs ix cs:=by
 obtain⟨h1,f,h2,e,g⟩:=h
 have d:=Zl.st s (nin1 j)
 exact⟨h1,f,h2.same λb hb=>(d b (e b hb)).2,λb hb=>(d b (e b hb)).1,g.st (Zl.st s (nin1 h0)) λb hb=>⟨⟨(d b hb.1).1,hb.2⟩,(d b hb.1).2⟩⟩
theorem Stp.ag {l:List Nat}(s:Stp X κ w κ' w') (h:apt l X=true):Ag l κ w w':=λb hb=>(s.keep b hb.1 (rj h _ hb.2)).2
theorem Ag.refl (l:List Nat) (κ:Col) (w:World):Ag l κ w w:=λ_ _=>rfl
theorem Ow.borrowE {x:α}(h:Oc E T κ w i a c xs) (hx:idx xs ix=some x) (j:Nat) (hj:Nat.beq i j=false) (h0:Nat.beq 0 i=false):
 ∃κ' cs,Stp [i] κ w κ' w/\E.rel (Zl κ' w [0]) (Zl κ' w [j]) w cs x/\Hole E T κ' w i a c xs ix cs/\∀(k:Nat) v,cs[k]? =some v->w.cell? ((aAt a (ix.toNat * E.size)).add k)=some v:=by
 classical
 obtain⟨m,h1,h2,t⟩:=h
 obtain⟨B,M,C⟩:=c8 hx
 obtain⟨cs,G,Sx,n,u,p,l⟩:=t.take1 C
 have J:i≠j:=λe=>by rw[e,Nat.beq_refl]at hj;cases hj
 have H:(0:Nat)≠i:=λe=>by rw[← e]at h0;cases h0
 let κ':Col:=λb=>if Sx b then j else κ b
 have A:∀b,Sx b->κ' b=j:=λb hb=>if_pos hb
 have hn:∀b,¬Sx b->κ' b=κ b:=λb hb=>if_neg hb
 have q:∀b,Zl κ w [0] b->Zl κ' w [0] b/\w.heap[b]? =w.heap[b]?:=λb hb=>by
  have I:κ b=0:=by simpa using hb.2
  have:¬Sx b:=λh=>by
   have d:κ b=i:=by simpa using (l b h).1.2
   omega
  exact⟨⟨hb.1,by rw[hn b this];exact hb.2⟩,rfl⟩
 refine⟨κ',cs,⟨rfl,rfl,rfl,Nat.le_refl _,λb _ hc=>⟨hn b λh=>hc (l b h).1.2,rfl⟩⟩,E.st q (λb hb=>⟨⟨(l b hb).1.1,by rw[A b hb];simp⟩,rfl⟩) u,⟨B,m,h1,λb hb=>?_,n.st q λb hb=>?_⟩,?_⟩
 · have d:=h2 b hb
   have:¬Sx b:=λh=>(l b h).2 hb
   exact⟨d.1,by rw[hn b this];exact d.2⟩
 · have d:=(p b hb).1
   exact⟨⟨⟨d.1.1,by rw[hn b (p b hb).2];exact d.1.2⟩,d.2⟩,rfl⟩
 · intro k v r
   obtain⟨N,D,F⟩:=n.cs_at
   rcases h1.2 with ⟨_,hn,_⟩ | ⟨g,o,s,rfl,y,K,hc,L,z⟩
   · omega
   · show w.cell? (((⟨g,o,none⟩:Addr).add _).add k)=some v
     rw[addb,addb,cell_of_row w g _ s T (0,0) y]
     have hk:=(bK.1 r).1
     have hm:ix.toNat * E.size+E.size<=xs.length * E.size:=by
      have:=Nat.mul_le_mul_right E.size (show ix.toNat+1<=xs.length from D)
      rwa [Nat.add_mul,Nat.one_mul]at this
     have f:m[ix.toNat * E.size+k]? =some v:=by
      have hl:(m.take (ix.toNat * E.size)).length=ix.toNat * E.size:=by rw[z9,h1.1];omega
      rw[← F,List.append_assoc,List.getElem?_append_right (by omega),hl,List.getElem?_append_left (by omega),show ix.toNat * E.size+k-ix.toNat * E.size=k from by omega]
      exact r
     rw[← z,List.getElem?_take]at f
     split at f
     · rw[List.getElem?_drop]at f
       simpa [Nat.add_assoc] using f
     · cases f
theorem Hole.back {y:α}{zs:List α}(h:Hole E T κ w i a c xs ix cs) (hy:E.rel (Zl κ w [0]) (Zl κ w [j]) w cs y) (hj:Nat.beq i j=false) (h0:Nat.beq 0 j=false) (hs:setI xs ix y=some zs):
 ∃κ',Stp [j] κ w κ' w/\Oc E T κ' w i a c zs:=by
 obtain⟨h1,m,h2,f,g⟩:=h
 obtain⟨x,z,r,s⟩:=lU hs
 obtain⟨A,B,t⟩:=g.cs_at
 have v:i≠j:=λe=>by rw[e,Nat.beq_refl]at hj;cases hj
 have u:(0:Nat)≠j:=λe=>by rw[← e]at h0;cases h0
 let κ':Col:=λb=>bif Nat.beq (κ b) j then i else κ b
 have p:∀b,κ b=j->κ' b=i:=λb hb=>by show(bif Nat.beq (κ b) j then i else κ b)=i;rw[hb,Nat.beq_refl];rfl
 have hn:∀b,κ b≠j->κ' b=κ b:=λb hb=>by
  show(bif Nat.beq (κ b) j then i else κ b)=κ b
  cases e:Nat.beq (κ b) j with
  | false=>rfl
  | true=>exact absurd (Nat.eq_of_beq_eq_true e) hb
 have k:∀b,Zl κ w [0] b->Zl κ' w [0] b/\w.heap[b]? =w.heap[b]?:=λb hb=>by
  have o:κ b=0:=by simpa using hb.2
  exact⟨⟨hb.1,by rw[hn b (by omega)];exact hb.2⟩,rfl⟩
 have l:∀b,Zl κ w [i] b->Zl κ' w [i] b:=λb hb=>by
  have o:κ b=i:=by simpa using hb.2
  exact⟨hb.1,by rw[hn b (by omega)];exact hb.2⟩
 refine⟨κ',⟨rfl,rfl,rfl,Nat.le_refl _,λb _ hc=>⟨hn b λh=>hc (by simp[h]),rfl⟩⟩,m,by rw[s];exact h2,λb hb=>l b (f b hb),?_⟩
 have q:E.rel (Zl κ' w [0]) (Zl κ w [j]) w cs y:=E.st k (λb hb=>⟨hb,rfl⟩) hy
 have:=LstH.put q (S':=λb=>Zl κ' w [i] b/\b+1≠nb a) (g.st (S':=λb=>Zl κ w [i] b/\b+1≠nb a) k λb hb=>⟨hb,rfl⟩) (λb hb=>⟨⟨l b hb.1,hb.2⟩,λh=>?_⟩) (λb hb=>⟨⟨hb.1,?_⟩,λh=>?_⟩)
 · rw[t]at this;rw[r];exact this
 · have n:κ b=i:=by simpa using hb.1.2
   have d:κ b=j:=by simpa using h.2
   omega
 · have d:κ b=j:=by simpa using hb.2
   rw[p b d];simp
 · have n:κ b=i:=by simpa using (f b h).2
   have d:κ b=j:=by simpa using hb.2
   omega
theorem Ow.borrow {α:Type}{E:Ep α}{Te:TypeId}{xs:List (List α)}{x:List α}{d:Option Addr}{f:Nat}(h:Oc (Ep.own E Te) T κ w i a c xs) (hx:idx xs ix=some x) (hc:w.cell? (aAt a (ix.toNat * 1))=some (.slice d x.length f)) (j:Nat) (hj:Nat.beq i j=false) (h0:Nat.beq 0 i=false):
 ∃κ',Stp [i] κ w κ' w/\Oc E Te κ' w j d f x/\Hole (Ep.own E Te) T κ' w i a c xs ix [.slice d x.length f]:=by
 obtain⟨κ',cs,h1,⟨a2,c2,e,h2⟩,k,l⟩:=h.borrowE hx j hj h0
 subst e
 have b:=l 0 _ rfl
 have hs:(Ep.own E Te).size=1:=rfl
 rw[hs]at b
 have g:(aAt a (ix.toNat * 1)).add 0=aAt a (ix.toNat * 1):=by
  unfold Addr.add;split <;> simp_all
 rw[g,hc]at b
 simp only[Option.some.injEq,Value.slice.injEq,true_and]at b
 obtain⟨rfl,rfl⟩:=b
 exact⟨κ',h1,h2,k⟩
theorem Ow.unborrow {α:Type}{E:Ep α}{Te:TypeId}{xs zs:List (List α)}{y:List α}{b:Option Addr}{n d:Nat}(h:Hole (Ep.own E Te) T κ w i a c xs ix [.slice b n d]) (hy:Oc E Te κ w j b d y) (hn:n=y.length) (hj:Nat.beq i j=false) (h0:Nat.beq 0 j=false) (hs:setI xs ix y=some zs):
 ∃κ',Stp [j] κ w κ' w/\Oc (Ep.own E Te) T κ' w i a c zs:=h.back ⟨b,d,by rw[hn],hy⟩ hj h0 hs
end
section
variable {P:Program}{n:Nat}{ops:Array Oper}{C:World->Prop}{N:Act->World->Prop}{r:List (Nat×Nat)}{L:Env}{κ:Col}{w:World}{i d:Nat}{o:Oper}
theorem WO.stH {α:Type}{E:Ep α}(q:Nat) (l:List Nat) (ad:ops[i]? =some o) (Z:gd ops L o=some true) (hd:o.dst=none){t T:TypeId}{x y:Operand}{a:Option Addr}{c j Q:Nat}{xs zs:List α}{v:Value}{cs S:List Value}{e:α}{ix:Int}
 (ae:o.op= .store t x y) (hx:opd L x=some (.pointer (some (aAt a j)))) (hj:j=ix.toNat * E.size) (hy:opd L y=some v) (Y:v.cells=cs.toArray) (aj:∀w,(sizeOf t).run P w= .ok Q w) (ah:Q=E.size) (f:E.rel (Zl κ w [0]) (Zl κ w l) w cs e) (J:nin l q=true) (h0:nin (q::l) 0=true)
 (af:Hole E T κ w q a c xs ix S) (M:setI xs ix e=some zs)
 (k:∀w' κ',Stp (q::l) κ w κ' w'->Oc E T κ' w' q a c zs->C w'/\WO P n ops C N r L w'):WO P n ops C N ((i,1)::r) L w:=
 WO.ln ad Z hd λR ha=>by
  subst hj ah
  obtain⟨aq,ar,O,ak⟩:=lU M
  obtain⟨_,B,u,V,I⟩:=af
  rcases u.2 with ⟨rfl,al,rfl⟩ | ⟨g,of,d,rfl,H,ab,X,am,ai⟩
  · omega
  · have aa:ix.toNat<xs.length:=by omega
    have ao:ix.toNat * E.size+E.size<=xs.length * E.size:=by
     have:=Nat.mul_le_mul_right E.size (show ix.toNat+1<=xs.length from aa)
     rwa [Nat.add_mul,Nat.one_mul]at this
    have ap:xs.length * E.size<=c * E.size:=Nat.mul_le_mul_right _ ab
    have F:aAt (some ⟨g,of,none⟩) (ix.toNat * E.size)=⟨g,of+ix.toNat * E.size,none⟩:=addb _ _ _
    have K:=mo (P:=P) (t:=t) (off:=of+ix.toNat * E.size) H aj Y (E.len f) (E.one f) (by omega)
    unfold Runs
    have:(execOp R.eval o).run P w= .ok .skip (w.setRow g (d.toList.take (of+ix.toNat * E.size)++cs++d.toList.drop (of+ix.toNat * E.size+E.size)).toArray):=by
     simp only[execOp,ae,ha.eval hx,ha.eval hy,F,Sem.run_bind,K,Result.andThen_ok,Sem.run_pure]
    rw[this]
    have s:κ g=q:=by simpa using (V g rfl).2
    have ht:Tch (g+1) w (w.setRow g (d.toList.take (of+ix.toNat * E.size)++cs++d.toList.drop (of+ix.toNat * E.size+E.size)).toArray):=Tch.setRow w g _
    have A:Stp (q::l) κ w (rlc κ (q::l) w.heap.size q) (w.setRow g (d.toList.take (of+ix.toNat * E.size)++cs++d.toList.drop (of+ix.toNat * E.size+E.size)).toArray):=Stp.rlT _ _ ht λb hb=>by
     have:b=g:=by omega
     rw[this,s];simp
    refine k _ _ A ⟨B.take (ix.toNat * E.size)++cs++B.drop (ix.toNat * E.size+E.size),?_,λb hb=>?_,?_⟩
    · have W:=u.1
      have m:=E.len f
      rw[ak]
      clear M O K this A ht k hx F I
      generalize ix.toNat * E.size=p at *
      refine⟨?_,.inr ⟨g,of,_,rfl,setRow_heap w g d _ T _ H,by omega,X,?_,?_⟩⟩
      · simp only[z5,z9,List.length_drop,W,m];omega
      · simp only[List.size_toArray,z5,z9,List.length_drop,Array.length_toList,m];omega
      · rw[← ai]
        generalize xs.length * E.size=z at *
        have an:d.toList.length=d.size:=by simp
        generalize d.toList=cl at *
        simp only[]
        rw[List.append_assoc,List.drop_append,List.drop_take,z9,show of-min (of+p) cl.length=0 from by omega,List.drop_zero,show of+p-of=p from by omega,List.take_append,z9,List.take_take,List.length_drop,
         show min z p=p from by omega,show min p (cl.length-of)=p from by omega,List.take_append,List.take_of_length_le (l:=cs) (by omega),List.take_drop,List.append_assoc,m,List.drop_take,show of+p-of=p from by omega,List.take_take,show min p z=p from by omega,List.drop_take,List.drop_drop,show of+(p+E.size)=of+p+E.size from by omega,show z-(p+E.size)=z-p-E.size from by omega]
    · have:b=g:=by simpa [nb] using hb
      subst this
      exact⟨by simpa using u.lt rfl,by rw[kM (by rw[s];simp)];simp⟩
    · rw[O]
      have D:=Zl.st A (nin1 h0)
      have G:∀b,κ b∈l->b≠g:=λb hb e=>by rw[e,s]at hb;exact dU.1 J hb
      have ag:=E.st (S':=Zl κ w l) D (λb hb=>⟨hb,ht.block b ⟨hb.1,by have:=G b hb.2;omega⟩⟩) f
      have ac:=I.st (S':=λb=>Zl κ w [q] b/\b+1≠nb (some ⟨g,of,none⟩)) D λb hb=>⟨hb,ht.block b ⟨hb.1.1,hb.2⟩⟩
      have U:∀b,(Zl κ w [q] b/\b+1≠nb (some ⟨g,of,none⟩))->rlc κ (q::l) w.heap.size q b∈[q]:=λb hb=>by
       have h1:κ b=q:=by simpa using hb.1.2
       rw[kM (by rw[h1];simp)];simp
      have hB:∀b,Zl κ w l b->rlc κ (q::l) w.heap.size q b∈[q]:=λb hb=>by
       rw[kM (List.mem_cons_of_mem _ hb.2)];simp
      refine LstH.put ag ac (λb hb=>⟨⟨⟨by simpa using hb.1.1,U b hb⟩,hb.2⟩,λh=>?_⟩) (λb hb=>⟨⟨by simpa using hb.1,hB b hb⟩,?_⟩)
      · have h1:κ b=q:=by simpa using hb.1.2
        exact dU.1 J (h1 ▸ h.2)
      · have:=G b hb.2
        simp only[nb];omega
end
section
variable {P:Program}{n:Nat}{ops:Array Oper}{C:World->Prop}{N:Act->World->Prop}{r:List (Nat×Nat)}{L:Env}{κ:Col}{w:World}{i d:Nat}{o:Oper}
end
section
variable {P:Program}{n:Nat}{C:World->Prop}{o:Oper}{L:Env}
def subA (a:Option Addr) (c l k:Nat):Option Addr:=if c=l then a else a.map (·.add (l * k))
theorem uy {w:World}{t e:TypeId}{a:Option Addr}{len c f:Nat}{l h:Int}{lo hi:Option Value}{k1 k2:IntKind}(b:∀w,(underlying t).run P w= .ok (.slice e) w) (d:∀w,(sizeOf e).run P w= .ok f w)
 (k:lo=none/\l=0\/lo=some (.int k1 l)) (j:hi=none/\h=len\/hi=some (.int k2 h)) (h0:0<=l) (h1:l<=h) (h2:h<=c):
 (Instr.sliceAt t (.slice a len c) lo hi none).run P w= .ok (.slice (subA a c l.toNat f) (h.toNat-l.toNat) (c-l.toNat)) w:=by
 have g:l<=(h.toNat:Int):=by omega
 unfold subA
 rcases k with ⟨rfl,rfl⟩ | rfl <;> rcases j with ⟨rfl,rfl⟩ | rfl
 · simp[Instr.sliceAt,Instr.slice,Instr.sliceBounds,b,d]
 · simp[Instr.sliceAt,Instr.slice,Instr.sliceBounds,Instr.sliceBound,asIntOf,b,d,h1,h2]
 · simp[Instr.sliceAt,Instr.slice,Instr.sliceBounds,Instr.sliceBound,asIntOf,b,d,h0,h1]
 · have i:0<=h:=by omega
   simp[Instr.sliceAt,Instr.slice,Instr.sliceBounds,Instr.sliceBound,asIntOf,b,d,h0,i,h2,g]
   intro m;omega
theorem nW {α:Type}{xs ys:List α}{t e:TypeId}{x:Operand}{lo hi:Option Operand}{a:Option Addr}{len c d:Nat}{l h:Int}{k1 k2:IntKind}(p:∀w,(underlying t).run P w= .ok (.slice e) w) (q:∀w,(sizeOf e).run P w= .ok d w)
 (j:lo=none/\l=0\/∃y,lo=some y/\opd L y=some (.int k1 l)) (g:hi=none/\h=xs.length\/∃y,hi=some y/\opd L y=some (.int k2 h)) (hs:subS xs l h=some ys) (hc:xs.length<=c)
 (k:o.op= .slice t x lo hi none) (hx:opd L x=some (.slice a len c)) (hl:len=xs.length):Rn P n C o L (.slice (subA a c l.toNat d) ys.length (c-l.toNat)):=λb w ha _=>by
 obtain⟨h0,h1,h2,f⟩:=sq hs
 subst hl
 have m:=uy (P:=P) (w:=w) (a:=a) (len:=xs.length) (c:=c) (lo:=lo.map b.eval) (hi:=hi.map b.eval) (k1:=k1) (k2:=k2) p q
  (j.imp (λ⟨e,h⟩=>⟨by rw[e];rfl,h⟩) λ⟨y,e,h⟩=>by rw[e];simp[ha.eval h]) (g.imp (λ⟨e,h⟩=>⟨by rw[e];rfl,h⟩) λ⟨y,e,h⟩=>by rw[e];simp[ha.eval h]) h0 h1 (by omega)
 have i:ys.length=h.toNat-l.toNat:=by rw[f];simp;omega
 rw[i]
 simp[execOp,k,ha.eval hx,m]
end
section
variable {α:Type}{S F:Nat->Prop}{w:World}{a:Option Addr}{c:Nat}{xs ys:List α}{l h:Int}
theorem Sl.sub {E:Rp α}(hs:Sl E S w a c xs) (e:subS xs l h=some ys):Sl E S w (subA a c l.toNat E.size) (c-l.toNat) ys:=by
 obtain⟨h0,h1,h2,f⟩:=sq e
 obtain⟨t,u,g⟩:=hs
 have r:ys.length=h.toNat-l.toNat:=by rw[f];simp;omega
 refine⟨by omega,by omega,?_⟩
 by_cases hy:ys=[]
 · refine .inl ⟨hy,λha=>?_⟩
   unfold subA at ha
   split at ha
   · omega
   · rcases g with ⟨_,hc⟩ | ⟨b,o,d,_⟩
     · cases a with
       | none=>have:=hc rfl;omega
       | some p=>cases ha
     · rw[d]at ha;cases ha
 · right
   have s:0<ys.length:=List.length_pos_iff.2 hy
   rcases g with ⟨d,_⟩ | ⟨b,o,d,hb,n⟩
   · subst d;simp at h2;omega
   · refine⟨b,o+l.toNat * E.size,?_,hb,λi x hx=>?_⟩
     · unfold subA
       rw[if_neg (by omega),d]
       simp[addb]
     · rw[f,List.getElem?_drop,List.getElem?_take]at hx
       split at hx
       · obtain⟨cs,k,m⟩:=n _ _ hx
         refine⟨cs,λj v q=>?_,m⟩
         have:=k j v q
         rwa [show o+l.toNat * E.size+i * E.size+j=o+(l.toNat+i) * E.size+j from by rw[Nat.add_mul];omega]
       · cases hx
theorem Ow.sub {E:Ep α}{T:TypeId}(hs:Ow E T F S w a c xs) (e:subS xs l h=some ys):Ow E T F S w (subA a c l.toNat E.size) (c-l.toNat) ys:=by
 obtain⟨h0,h1,h2,i⟩:=sq e
 obtain⟨n,⟨s,t⟩,hb,hl⟩:=hs
 have k:ys.length=h.toNat-l.toNat:=by rw[i];simp;omega
 have m:nb (subA a c l.toNat E.size)=nb a:=by
  unfold subA
  split
  · rfl
  · cases a with
    | none=>rfl
    | some p=>simp only[Option.map_some,nb];unfold Addr.add;split <;> rfl
 refine⟨(n.take (h.toNat * E.size)).drop (l.toNat * E.size),⟨?_,?_⟩,λb q=>hb b (by rw[← m];exact q),?_⟩
 · have hm:h.toNat * E.size<=xs.length * E.size:=Nat.mul_le_mul_right _ (by omega)
   rw[k,List.length_drop,z9,s,Nat.min_eq_left hm,Nat.sub_mul]
 · rcases t with ⟨rfl,hn,rfl⟩ | ⟨g,o,f,rfl,j,y,v,z,r⟩
   · refine .inl ⟨?_,by omega,by omega⟩
     unfold subA;split <;> rfl
   · by_cases d:c=l.toNat
     · refine .inr ⟨g,o,f,by simp[subA,d],j,by omega,by omega,by rw[d];simp;omega,?_⟩
       rw[show ys.length=0 from by omega,Nat.zero_mul,List.take_zero,eq_comm,List.drop_eq_nil_iff,z9]
       have:h.toNat=l.toNat:=by omega
       rw[this];omega
     · have u:l.toNat * E.size<=c * E.size:=Nat.mul_le_mul_right _ (by omega)
       refine .inr ⟨g,o+l.toNat * E.size,f,by simp[subA,d,addb],j,by omega,by omega,by rw[Nat.sub_mul];omega,?_⟩
       have hm:h.toNat * E.size<=xs.length * E.size:=Nat.mul_le_mul_right _ (by omega)
       have x:l.toNat * E.size<=h.toNat * E.size:=Nat.mul_le_mul_right _ (by omega)
       rw[k,Nat.sub_mul,← r,List.take_take,Nat.min_eq_left hm,List.drop_take,List.drop_drop]
 · rw[i,m]
   exact(hl.take h.toNat).drop l.toNat
end
end Go.Wk
set_option linter.unusedVariables false
set_option linter.unusedSimpArgs false
namespace Go.Wk
open Go
def lpK {b a:Type}(next:a->Option (b⊕a)):b⊕(a⊕a)->Option (b⊕a)
 | .inl r=>some (.inl r)
 | .inr (.inl s)=>some (.inr s)
 | .inr (.inr s)=>next s
theorem kE {b a:Type}(next:a->Option (b⊕a)) (s:a):lpK next (.inr (.inr s))=next s:=rfl
def aft {a b α:Type}(c:a->α) (d:b->α):a⊕b->α
 | .inl r=>c r
 | .inr s=>d s
theorem mF {b d α:Type}(a:b->α) (c:d->α) (r:b):aft a c (.inl r)=a r:=rfl
theorem bV {d b α:Type}(c:d->α) (a:b->α) (s:b):aft c a (.inr s)=a s:=rfl
def cntM {b a:Type}(f:Int->a->Option (b⊕(a⊕a))):Nat->Int->a->Option (b⊕a)
 | 0,_,s=>some (.inr s)
 | k+1,j,s=>bH (f j s) (lpK (cntM f k (j+1)))
def bU {b a:Type}(f:a->Option (b⊕(a⊕a))):Nat->a->Option (b⊕a)
 | 0,_=>none
 | k+1,s=>bH (f s) (lpK (bU f k))
def nz (z:Int):Option Unit:=if z=0 then none else some ()
theorem wU {z:Int}{u:Unit}(h:nz z=some u):¬z=0:=by unfold nz at h;split at h <;> simp_all
def nn (z:Int):Option Unit:=if z<0 then none else some ()
theorem wR {z:Int}{u:Unit}(h:nn z=some u):¬z<0:=by
 unfold nn at h
 split at h
 · cases h
 · assumption
def rng (z:Int):Option Unit:=if z<=9223372036854775807 then some () else none
theorem kN {z:Int}{u:Unit}(h:rng z=some u):z<=9223372036854775807:=by
 unfold rng at h
 split at h
 · assumption
 · cases h
theorem wr1 {v N:Int}(h0:0<=v) (h1:v<N) (h2:N<=9223372036854775807):IntKind.wrap .i64 (v+1)=v+1:=by
 rw[IntKind.wrap_i64];omega
theorem cn {α:Type}(x:α):∃o,some x=some o:=⟨x,rfl⟩
end Go.Wk
set_option linter.unusedVariables false
set_option linter.unusedSimpArgs false
namespace Go.Wk
open Go
def getK {K V:Type} [DecidableEq K]:List (K×V)->K->Option V
 | [],_=>none
 | p::r,k=>if k=p.1 then some p.2 else getK r k
def putK {K V:Type} [DecidableEq K]:List (K×V)->K->V->List (K×V)
 | [],k,v=>[(k,v)]
 | p::r,k,v=>if k=p.1 then(k,v)::r else p::putK r k v
section
variable {K V:Type} [DecidableEq K]
theorem qK:∀{xs:List (K×V)}{k:K},(∀p∈xs,p.1≠k)->getK xs k=none
 | [],_,_=>rfl
 | p::r,k,h=>by
  have h1:=h p (List.mem_cons_self ..)
  simp only[getK,if_neg (λe=>h1 e.symm:¬k=p.1)]
  exact qK λq a=>h q (List.mem_cons_of_mem _ a)
theorem ox:∀{xs:List (K×V)}{k:K}{v:V},(∀p∈xs,p.1≠k)->putK xs k v=xs++[(k,v)]
 | [],_,_,_=>rfl
 | p::r,k,v,h=>by
  have h1:=h p (List.mem_cons_self ..)
  simp only[putK,if_neg (λe=>h1 e.symm:¬k=p.1),List.cons_append]
  rw[ox λq a=>h q (List.mem_cons_of_mem _ a)]
theorem uQ:∀{xs:List (K×V)}{k:K}{v:V}{j:Nat},(xs.map (·.1)).Nodup->xs[j]? =some (k,v)->getK xs k=some v
 | [],_,_,_,_,h=>by simp at h
 | p::r,k,v,0,_,h=>by
  simp only[List.getElem?_cons_zero,Option.some.injEq]at h
  subst h
  simp[getK]
 | p::r,k,v,j+1,hn,h=>by
  simp only[List.getElem?_cons_succ]at h
  rw[List.map_cons,List.nodup_cons]at hn
  have:¬k=p.1:=λe=>hn.1 (e ▸ List.mem_map.2 ⟨(k,v),bQ h,rfl⟩)
  simp only[getK,if_neg this]
  exact uQ hn.2 h
theorem rO:∀{xs:List (K×V)}{k:K}{v a:V}{j:Nat},(xs.map (·.1)).Nodup->xs[j]? =some (k,a)->putK xs k v=xs.set j (k,v)
 | [],_,_,_,_,_,h=>by simp at h
 | p::r,k,v,a,0,_,h=>by
  simp only[List.getElem?_cons_zero,Option.some.injEq]at h
  subst h
  simp[putK]
 | p::r,k,v,a,j+1,hn,h=>by
  simp only[List.getElem?_cons_succ]at h
  rw[List.map_cons,List.nodup_cons]at hn
  have:¬k=p.1:=λe=>hn.1 (e ▸ List.mem_map.2 ⟨(k,a),bQ h,rfl⟩)
  simp only[putK,if_neg this,List.set_cons_succ]
  rw[rO hn.2 h]
omit [DecidableEq K] in
theorem qT {xs:List (K×V)}{k:K}{v a:V}{j:Nat}(h:xs[j]? =some (k,a)):(xs.set j (k,v)).map (·.1)=xs.map (·.1):=by
 apply List.ext_getElem?
 intro i
 simp only[List.getElem?_map,List.getElem?_set]
 split
 · rename_i e
   subst e
   split
   · rw[h];rfl
   · rename_i hl
     rw[List.getElem?_eq_none (by omega)]
 · rfl
def mget (wf:K->Bool) (xs:List (K×V)) (k:K) (z:V):Option (V×Bool):=if wf k=true then some (match getK xs k with | some v=>(v,true) | none=>(z,false)) else none
def mset (wf:K->Bool) (xs:List (K×V)) (k:K) (v:V):Option (List (K×V)):=if wf k=true then some (putK xs k v) else none
end
structure KeyE (P:Program) (kt:TypeId) {K:Type} (kf:K->Value) (wf:K->Bool):Prop where
 law:WideMaps.KeyLaw P kt
 key:∀k,wf k=true->∃l,keyOf P kt (kf k)=some l
 inj:∀k k',kf k=kf k'->k=k'
def Mx {K V:Type}(wf:K->Bool) (kf:K->Value) (vf:V->Value) (w:World) (b:Nat) (xs:List (K×V)):Prop:=
 ∃a c,w.heap[b]? =some (.map a c)/\a.toList.map (λe=>(e.key,e.val))=xs.map (λp=>(kf p.1,vf p.2))/\(∀p∈xs,wf p.1=true)/\(xs.map (·.1)).Nodup
structure Mc {K V:Type} (wf:K->Bool) (kf:K->Value) (vf:V->Value) (κ:Col) (w:World) (i:Nat) (b:Nat) (xs:List (K×V)):Prop where
 mx:Mx wf kf vf w b xs
 col:κ b=i
section
variable {K V:Type}{wf:K->Bool}{kf:K->Value}{vf:V->Value}{X:List Nat}{κ κ' κ1:Col}{w w' w1:World}{i j b:Nat}{xs:List (K×V)}
theorem Mx.lt (h:Mx wf kf vf w b xs):b<w.heap.size:=by
 obtain⟨c,a,h1,_⟩:=h
 exact(Array.getElem?_eq_some_iff.1 h1).1
theorem Mx.of (h:Mx wf kf vf w b xs) (e:w'.heap[b]? =w.heap[b]?):Mx wf kf vf w' b xs:=by
 obtain⟨c,a,h1,h2⟩:=h
 exact⟨c,a,e.trans h1,h2⟩
theorem Mc.stp (h:Mc wf kf vf κ w i b xs) (s:Stp X κ w κ' w') (h0:nin X 0=true:=by exact rfl) (a:nin X i=true:=by exact rfl):Mc wf kf vf κ' w' i b xs:=by
 obtain⟨h1,h2⟩:=s.keep b h.mx.lt (by rw[h.col];exact dU.1 a)
 exact⟨h.mx.of h2,h1.trans h.col⟩
theorem Mc.map (h:Mc wf kf vf κ w i b xs) (g:Nat->Nat) (h0:g 0=0) (hi:g i=j):Mc wf kf vf (λb=>g (κ b)) w j b xs:=⟨h.mx,by show g (κ b)=j;rw[h.col,hi]⟩
theorem mvE (h:Mc wf kf vf κ w i b xs):∀w',w'=w->Mx wf kf vf w' b xs:=λw' a=>by rw[a];exact h.mx
end
theorem Mx.find {K V:Type} [DecidableEq K] {P:Program}{kt:TypeId}{wf:K->Bool}{kf:K->Value}{vf:V->Value}{xs:List (K×V)}{b:Array MapEntry}(E:KeyE P kt kf wf) (g:b.toList.map (λe=>(e.key,e.val))=xs.map (λp=>(kf p.1,vf p.2)))
 (o:∀p∈xs,wf p.1=true) (hn:(xs.map (·.1)).Nodup) {k:K} (hk:wf k=true) (w:World):
 ((Instr.findKey kt (kf k) b.toList).run P w= .ok none w/\∀p∈xs,p.1≠k)\/∃(j:Nat) (v:V) (e:MapEntry),(Instr.findKey kt (kf k) b.toList).run P w= .ok (some (j,vf v)) w/\xs[j]? =some (k,v)/\b[j]? =some e/\e.key=kf k:=by
 have f:∀(j:Nat) (e:MapEntry),b.toList[j]? =some e->∃p,xs[j]? =some p/\e.key=kf p.1/\e.val=vf p.2:=λj e c=>by
  have h1:=congrArg (λl=>l[j]?) g
  simp only[List.getElem?_map,c,Option.map_some]at h1
  cases hx:xs[j]? with
  | none=>rw[hx]at h1;cases h1
  | some p=>
   rw[hx]at h1
   simp only[Option.map_some,Option.some.injEq,Prod.mk.injEq]at h1
   exact⟨p,rfl,h1.1,h1.2⟩
 obtain⟨l,hl⟩:=E.key k hk
 rcases E.law.find w hl b.toList (λe c=>by
  obtain⟨j,hj⟩:=List.mem_iff_getElem?.1 c
  obtain⟨p,h1,h2,_⟩:=f j e hj
  rw[h2]
  exact E.key _ (o p (bQ h1))) with ⟨h1,h2⟩ | ⟨j,e,h1,h2,a⟩
 · refine .inl ⟨h1,λp hp d=>?_⟩
   obtain⟨j,hj⟩:=List.mem_iff_getElem?.1 hp
   have a:=congrArg (λl=>l[j]?) g
   simp only[List.getElem?_map,hj,Option.map_some]at a
   cases hx:b.toList[j]? with
   | none=>rw[hx]at a;cases a
   | some e=>
    rw[hx]at a
    simp only[Option.map_some,Option.some.injEq,Prod.mk.injEq]at a
    exact h2 e (bQ hx) (by rw[a.1,d])
 · obtain⟨p,i,m,n⟩:=f j e h2
   have d:p.1=k:=E.inj _ _ (by rw[← m,a])
   refine .inr ⟨j,p.2,e,by rw[h1,n],by rw[i,← d],by simpa using h2,a⟩
section
variable {P:Program}{n:Nat}{ops:Array Oper}{C:World->Prop}{N:Act->World->Prop}{r:List (Nat×Nat)}{L:Env}{κ:Col}{w:World}{i d:Nat}{o:Oper}
variable {K V:Type} [DecidableEq K] {wf:K->Bool}{kf:K->Value}{vf:V->Value}{xs zs:List (K×V)}{b:Nat}{t kt et:TypeId}{k:K}{v z:V}
theorem vT {x ix:Operand}{r:V×Bool}(E:KeyE P kt kf wf) (ht:∀w,(underlying t).run P w= .ok (.map kt et) w) (q:∀w,(zeroValue et).run P w= .ok (vf z) w) (i:o.op= .lookup t x ix true) (hx:opd L x=some (.map (some b)))
 (hk:opd L ix=some (kf k)) (hm:∀w,C w->Mx wf kf vf w b xs) (h:mget wf xs k z=some r):Rn P n C o L (.tuple #[vf r.1,.bool r.2]):=λa w ha hc=>by
 unfold mget at h
 split at h
 · rename_i m
   simp only[Option.some.injEq]at h
   subst h
   obtain⟨u,s,h1,h2,p,f⟩:=hm w hc
   obtain⟨l,hl⟩:=E.key k m
   have g:=λe=>E.law.check w e hl
   rcases Mx.find E h2 p f m w with ⟨c,d⟩ | ⟨j,v,e,c,d,y,A⟩
   · rw[qK d]
     simp[execOp,i,ha.eval hx,ha.eval hk,Instr.lookup,ht,MapKept.run_getObj_map h1,g,c,q,Result.andThen]
   · rw[uQ f d]
     simp[execOp,i,ha.eval hx,ha.eval hk,Instr.lookup,ht,MapKept.run_getObj_map h1,g,c,Result.andThen]
 · cases h
omit [DecidableEq K] in
theorem WO.mkmap (q:Nat) (e:ops[i]? =some o) (c:gd ops L o=some true) (hd:o.dst=some d) (hb:Nat.blt d n=true) (f:o.op= .makeMap t none) (wf:K->Bool) (kf:K->Value) (vf:V->Value)
 (k:∀b w' κ',Stp [] κ w κ' w'->Mc wf kf vf κ' w' q b []->C w'/\WO P n ops C N r ((d,.map (some b))::L) w'):WO P n ops C N ((i,1)::r) L w:=
 WO.l e c hd hb λa ha=>by
  unfold Runs
  have:(execOp a.eval o).run P w= .ok (.value (.map (some w.heap.size))) (w.alloc (.map #[] 0)):=by
   simp only[execOp,f,Instr.makeMap,Sem.run_bind,Sem.run_pure,Result.andThen_ok,run_newObj,Option.map_none]
   rfl
  rw[this]
  exact k _ _ _ (Stp.nw q (Ext.alloc _ _)) ⟨⟨#[],0,heap_alloc_new w _,rfl,by simp,by simp⟩,pN (Nat.le_refl _)⟩
theorem WO.mapup (q:Nat) (W:ops[i]? =some o) (O:gd ops L o=some true) (hd:o.dst=none){x ix y:Operand}(Q:o.op= .mapUpdate t x ix y) (hx:opd L x=some (.map (some b))) (hk:opd L ix=some (kf k)) (hy:opd L y=some (vf v))
 (E:KeyE P kt kf wf) (ht:∀w,(underlying t).run P w= .ok (.map kt et) w) (hm:Mc wf kf vf κ w q b xs) (h:mset wf xs k v=some zs)
 (c:∀w',Stp [q] κ w κ w'->Mc wf kf vf κ w' q b zs->C w'/\WO P n ops C N r L w'):WO P n ops C N ((i,1)::r) L w:=
 WO.ln W O hd λR ha=>by
  unfold mset at h
  split at h
  · rename_i u
    simp only[Option.some.injEq]at h
    obtain⟨⟨I,z,h1,h2,B,s⟩,M⟩:=hm
    obtain⟨l,hl⟩:=E.key k u
    have K:=E.law.check w false hl
    have V:=(Array.getElem?_eq_some_iff.1 h1).1
    have H:∃f A,(execOp R.eval o).run P w= .ok .skip { w with heap:=w.heap.setIfInBounds b (.map f A) }/\f.toList.map (λe=>(e.key,e.val))=zs.map (λp=>(kf p.1,vf p.2))/\(∀p∈zs,wf p.1=true)/\(zs.map (·.1)).Nodup:=by
     rcases Mx.find E h2 B s u w with ⟨D,d⟩ | ⟨j,ab,e,D,d,J,S⟩
     · rw[ox d]at h
       subst h
       refine⟨I.push { key:=kf k,val:=vf v,born:=z },z+1,?_,?_,?_,?_⟩
       · simp[execOp,Q,ha.eval hx,ha.eval hk,ha.eval hy,Instr.mapUpdate,ht,MapKept.run_getObj_map h1,K,D,MapKept.run_setObj_map _ h1,Result.andThen]
       · rw[Array.toList_push,List.map_append,h2,List.map_append];rfl
       · intro p hp
         rw[List.mem_append,z6]at hp
         rcases hp with hp | rfl
         · exact B p hp
         · exact u
       · rw[List.map_append,List.nodup_append]
         refine⟨s,by simp,λa T c hc e=>?_⟩
         simp only[List.map_cons,List.map_nil,z6]at hc
         obtain⟨p,hp,rfl⟩:=List.mem_map.1 T
         exact d p hp (e.trans hc)
     · rw[rO s d]at h
       subst h
       have X:=E.law.stays w hl
       refine⟨I.modify j (λe=>{ e with key:=kf k,val:=vf v }),z,?_,?_,?_,?_⟩
       · simp[execOp,Q,ha.eval hx,ha.eval hk,ha.eval hy,Instr.mapUpdate,ht,MapKept.run_getObj_map h1,K,D,J,S,X,MapKept.run_setObj_map _ h1,Result.andThen]
       · apply List.ext_getElem?
         intro m
         have F:=congrArg (λl=>l[m]?) h2
         simp only[List.getElem?_map]at F
         simp only[List.getElem?_map,Array.getElem?_toList,Array.getElem?_modify,List.getElem?_set]
         rw[Array.getElem?_toList]at F
         by_cases G:j=m
         · subst G
           have hjl:=(bK.1 d).1
           rw[J]
           simp[hjl]
         · rw[if_neg G,if_neg G]
           exact F
       · intro p hp
         rcases List.mem_or_eq_of_mem_set hp with hp | rfl
         · exact B p hp
         · exact u
       · rw[qT d];exact s
    obtain⟨f,A,k1,Y,Z,aa⟩:=H
    unfold Runs
    rw[k1]
    refine c _ ⟨rfl,rfl,rfl,by simp,λg O U=>⟨rfl,?_⟩⟩ ⟨⟨f,A,by simp[V],Y,Z,aa⟩,M⟩
    have:b≠g:=λe=>U (by rw[← e,M];simp)
    simp[Array.getElem?_setIfInBounds_ne this]
  · cases h
end
section
variable {P:Program}{n:Nat}{C:World->Prop}{L:Env}{o:Oper}
theorem qZ {t:TypeId}{k:IntKind}{p q:Int}(u:∀w,(underlying t).run P w= .ok (.int k) w) (d:Nat) (w:World):(Op.equalIn (d+1) t (.int k p) (.int k q)).run P w= .ok (p==q) w:=by
 simp[Op.equalIn,u]
theorem tn {t e:TypeId}{k:IntKind}{p1 p2 a b:Int}(ht:∀w,(underlying t).run P w= .ok (.array 2 e) w) (a1:∀w,(isAgg e).run P w= .ok false w) (c:∀w,(underlying e).run P w= .ok (.int k) w) (j:∀w,(sizeOf e).run P w= .ok 1 w) (w:World):
 (Op.equal t (.agg #[.int k p1,.int k p2]) (.agg #[.int k a,.int k b])).run P w= .ok ((p1==a)&&(p2==b)) w:=by
 unfold Op.equal
 obtain⟨d,hd⟩:∃d,Op.maxDepth=(d+1)+1:=⟨9998,rfl⟩
 rw[hd]
 have i:∀p q:Int,(part e #[.int k p,.int k q] 0).run P w= .ok (.int k p) w:=λp q=>by simp[part,a1]
 have f:∀p q:Int,(part e #[.int k p,.int k q] 1).run P w= .ok (.int k q) w:=λp q=>by simp[part,a1]
 rw[Op.equalIn]
 simp only[Sem.run_bind,ht,Result.andThen_ok,j,Std.Legacy.Range.forIn_eq_forIn_range',Std.Legacy.Range.size]
 rw[show List.range' 0 ((2-0+1-1) / 1) 1=[0,1] from rfl]
 simp only[List.forIn_cons,List.forIn_nil,Sem.run_bind,Nat.mul_one,i,f,Result.andThen_ok,qZ c]
 cases l:(p1==a) <;> cases g:(p2==b) <;> simp[Result.andThen,qZ c,f,g]
theorem xa {x y:Operand}{t t' e:TypeId}{k:IntKind}{p1 p2 c d:Int}(ht:∀w,(underlying t).run P w= .ok (.array 2 e) w) (b:P.eqGuardType P.depth t=false) (a1:∀w,(isAgg e).run P w= .ok false w) (g:∀w,(underlying e).run P w= .ok (.int k) w) (i:∀w,(sizeOf e).run P w= .ok 1 w)
 (f:o.op= .binOp .eql t x y t') (hx:opd L x=some (.agg #[.int k p1,.int k p2])) (hy:opd L y=some (.agg #[.int k c,.int k d])):Rn P n C o L (.bool ((p1==c)&&(p2==d))):=λa w ha _=>by
 simp only[execOp,f,ha.eval hx,ha.eval hy,eqGuard,binOp,Sem.run_bind,run_program,Sem.run_pure,Result.andThen_ok,b,tn ht a1 g i]
 simp[Result.andThen,b]
end
def wf2 (a b:Int):Bool:=decide (-9223372036854775808<=a/\a<=9223372036854775807/\ -9223372036854775808<=b/\b<=9223372036854775807)
theorem zM {P:Program}{k e:TypeId}{m:Nat}(c:P.underlying k=some (.array 2 e)) (g:P.keyType k=true) (i:P.types.size=m+1) (hc:P.cellsOf k=2) (f:P.cellsOf e=1) (j:P.underlying e=some (.int .i64)){a b:Int}(d:wf2 a b=true):
 ∃l,keyOf P k (.agg #[.int .i64 a,.int .i64 b])=some l:=by
 unfold wf2 at d
 have d:=of_decide_eq_true d
 have w1:(Lit.int .i64 a).wf=true:=by simp[Lit.wf,show IntKind.i64.min= -9223372036854775808 from rfl,show IntKind.i64.max=9223372036854775807 from rfl];omega
 have n:(Lit.int .i64 b).wf=true:=by simp[Lit.wf,show IntKind.i64.min= -9223372036854775808 from rfl,show IntKind.i64.max=9223372036854775807 from rfl];omega
 unfold keyOf
 rw[c]
 simp only[g,Value.formed,c,hc,Value.cells,i]
 simp[Program.keyLits,c,hc,f,j,w1,n,List.range_succ]
end Go.Wk
set_option linter.unusedVariables false
set_option linter.unusedSimpArgs false
namespace Go.Wk
open Go Go.ChangeShapes Go.WideShapes Go.ChangeAt Go.RowKit
theorem wo {w:World}{b o:Nat}{v:Value}(h:w.cell? ⟨b,o,none⟩=some v):b<w.heap.size:=by
 by_cases hb:b<w.heap.size
 · exact hb
 · have:w.heap[b]? =none:=by simp;omega
   simp[World.cell?,this]at h
def Opn {α:Type}(P:Program) (T:TypeId) (E:Rp α) (b:α->Prop):Prop:=
 ∀{H:Type} (a:TypeId×Value->H) (w:World) (n:Nat) (cs:List Value) (y:DataW H×List MemPlace),DataW.trod a P w 0 (λ_=>true) true n T cs=some y->∃x,E.rel (Zl (λ_=>0) w [0,0]) w cs x/\b x
def I64 (n:Int):Prop:= -9223372036854775808<=n/\n<=9223372036854775807
def U8 (n:Int):Prop:=0<=n/\n<=255
def okS {α:Type}(p:α->Prop) (xs:List α):Prop:=(∀x∈xs,p x)/\xs.length<=maxLen
section
variable {P:Program}{T e:TypeId}
theorem y9 (ht:P.underlying T=some (.int .u8)):Opn P T (Rp.int .u8) U8:=λb w n cs y h=>by
 obtain⟨m,rfl,_,a⟩:=DataW.trod_int ht h
 refine⟨m,rfl,?_⟩
 simp[Lit.wf,IntKind.min,IntKind.max,IntKind.bits,IntKind.signed]at a
 unfold U8
 omega
theorem oD {α:Type}{p:Nat->α->Prop}:∀n:Nat,(∀i,i<n->∃x,p i x)->∃xs:List α,xs.length=n/\∀i x,xs[i]? =some x->p i x
 | 0,_=>⟨[],rfl,λi x h=>by cases i <;> cases h⟩
 | n+1,h=>by
  obtain⟨xs,h1,h2⟩:=oD n λi a=>h i (by omega)
  obtain⟨x,hx⟩:=h n (by omega)
  refine⟨xs++[x],by simp[h1],λi y hy=>?_⟩
  by_cases a:i<n
  · rw[List.getElem?_append_left (by omega)]at hy
    exact h2 i y hy
  · have b:i=n:=by
     have:=(bK.1 hy).1
     simp at this;omega
    subst b
    rw[List.getElem?_append_right (by omega),h1]at hy
    simp at hy
    subst hy
    exact hx
theorem y8 {α:Type}{E:Rp α}{t:α->Prop}(ht:P.underlying T=some (.slice e)) (hc:P.cellsOf e=E.size) (hp:Nat.ble 1 E.size=true) (h:Opn P e E t):Opn P T (Rp.sl E) (okS t):=λF w n cs y hy=>by
 rcases Go.Deep.open_slice ht hy with ⟨rfl,_⟩ | ⟨a,K,u,m,L,D,Pl,rfl,hb,hl,hm,H,_,hx⟩
 · exact⟨[],⟨none,0,rfl,Sl.nil⟩,by simp,by simp⟩
 · have M:m=u:=by simpa using H
   obtain⟨xs,h1,h2⟩:=oD (p:=λi x=>t x/\∃c:List Value,c.length=E.size/\(∀j,j<E.size->w.cell? ((a.add (i * E.size)).add j)=c[j]?)/\E.rel (Zl (λ_=>0) w [0,0]) w c x) K λi B=>by
    obtain⟨c,z,G⟩:=hx i (by omega)
    obtain⟨x,d,r⟩:=h F w L c _ G
    rw[hc]at z
    obtain⟨_,l,f⟩:=World.cells?_some z
    exact⟨x,r,c,l,f,d⟩
   refine⟨xs,⟨some a,u,by rw[h1],by omega,hm,?_⟩,λx hx=>?_,by omega⟩
   · by_cases h0:xs=[]
     · exact .inl ⟨h0,λh=>by cases h⟩
     · right
       have hp:=Nat.ble_eq.mp hp
       have C:0<xs.length:=List.length_pos_iff.2 h0
       obtain⟨b,o,s⟩:=a
       have J:∀i x,xs[i]? =some x->∃c:List Value,E.rel (Zl (λ_=>0) w [0,0]) w c x/\∀j v,c[j]? =some v->w.cell? ((⟨b,o,s⟩:Addr).add (i * E.size+j))=some v:=λi x hx=>by
        obtain⟨_,c,l,f,d⟩:=h2 i x hx
        refine⟨c,d,λj v q=>?_⟩
        have hj:=(bK.1 q).1
        have:=f j (by omega)
        rw[Go.Deep.add_add]at this
        rw[this];exact q
       have I:s=none:=by
        obtain⟨_,c,l,f,d⟩:=h2 0 xs[0] (by simp[C])
        have g:=f 0 (by omega)
        rw[Nat.zero_mul,Go.Deep.add_add]at g
        have:c[0]? =some c[0]:=by simp
        rw[this]at g
        have:=World.cell?_spot g
        simpa [Addr.add] using this
       subst I
       have A:∀k,(⟨b,o,none⟩:Addr).add k=⟨b,o+k,none⟩:=λk=>by unfold Addr.add;split <;> simp_all
       refine⟨b,o,rfl,⟨?_,by simp⟩,λi x hx=>?_⟩
       · obtain⟨_,c,l,f,d⟩:=h2 0 xs[0] (by simp[C])
         have g:=f 0 (by omega)
         rw[Nat.zero_mul,Go.Deep.add_add,A]at g
         have:c[0]? =some c[0]:=by simp
         rw[this]at g
         exact wo g
       · obtain⟨c,d,r⟩:=J i x hx
         refine⟨c,λj v q=>?_,d⟩
         have:=r j v q
         rw[A]at this
         rw[show o+i * E.size+j=o+(i * E.size+j) from by omega]
         exact this
   · obtain⟨i,B⟩:=List.getElem?_of_mem hx
     exact(h2 i x B).1
theorem yc {α:Type}{E:Rp α}{b:α->Prop}{H:Type}{a:TypeId×Value->H}{w:World}{v:Value}{d:DataW H}{ps:List MemPlace}(h:Opn P T E b) (hd:DataW.Trod a P w 0 (λ_=>true) true T v d ps):
 ∃x,E.rel (Zl (λ_=>0) w [0,0]) w v.cells.toList x/\b x:=by
 obtain⟨n,hn⟩:=hd
 exact h a w n _ _ hn
end
end Go.Wk
set_option linter.unusedVariables false
set_option linter.unusedSimpArgs false
namespace Go.Wk
open Go
section
variable {α β γ:Type}{E:Ep α}{E1:Ep β}{E2:Ep γ}{T T1 T2:TypeId}{κ:Col}{w:World}{i:Nat}{a a1 a2:Option Addr}{c c1 c2:Nat}{xs:List α}{ix:Int}
end
section
variable {P:Program}{n:Nat}{ops:Array Oper}{C:World->Prop}{N:Act->World->Prop}{r:List (Nat×Nat)}{L:Env}{κ:Col}{w:World}{i d:Nat}{o:Oper}
variable {K V:Type} [DecidableEq K] {wf:K->Bool}{kf:K->Value}{vf:V->Value}{xs zs:List (K×V)}{b:Nat}{t kt et:TypeId}{k:K}{v z:V}
theorem WO.mapin (q:Nat) (W:ops[i]? =some o) (O:gd ops L o=some true) (hd:o.dst=none){x ix y:Operand}(Q:o.op= .insert t x ix y) (hx:opd L x=some (.map (some b))) (hk:opd L ix=some (kf k)) (hy:opd L y=some (vf v))
 (E:KeyE P kt kf wf) (ht:∀w,(underlying t).run P w= .ok (.map kt et) w) (hm:Mc wf kf vf κ w q b xs) (h:mset wf xs k v=some zs)
 (c:∀w',Stp [q] κ w κ w'->Mc wf kf vf κ w' q b zs->C w'/\WO P n ops C N r L w'):WO P n ops C N ((i,1)::r) L w:=
 WO.ln W O hd λR ha=>by
  unfold mset at h
  split at h
  · rename_i u
    simp only[Option.some.injEq]at h
    obtain⟨⟨I,z,h1,h2,B,s⟩,M⟩:=hm
    obtain⟨l,hl⟩:=E.key k u
    have K:=E.law.check w false hl
    have V:=(Array.getElem?_eq_some_iff.1 h1).1
    have H:∃f A,(execOp R.eval o).run P w= .ok .skip { w with heap:=w.heap.setIfInBounds b (.map f A) }/\f.toList.map (λe=>(e.key,e.val))=zs.map (λp=>(kf p.1,vf p.2))/\(∀p∈zs,wf p.1=true)/\(zs.map (·.1)).Nodup:=by
     rcases Mx.find E h2 B s u w with ⟨D,d⟩ | ⟨j,ab,e,D,d,J,S⟩
     · rw[ox d]at h
       subst h
       refine⟨I.push { key:=kf k,val:=vf v,born:=z },z+1,?_,?_,?_,?_⟩
       · simp[execOp,Q,ha.eval hx,ha.eval hk,ha.eval hy,Instr.mapUpdate,ht,MapKept.run_getObj_map h1,K,D,MapKept.run_setObj_map _ h1,Result.andThen]
       · rw[Array.toList_push,List.map_append,h2,List.map_append];rfl
       · intro p hp
         rw[List.mem_append,z6]at hp
         rcases hp with hp | rfl
         · exact B p hp
         · exact u
       · rw[List.map_append,List.nodup_append]
         refine⟨s,by simp,λa T c hc e=>?_⟩
         simp only[List.map_cons,List.map_nil,z6]at hc
         obtain⟨p,hp,rfl⟩:=List.mem_map.1 T
         exact d p hp (e.trans hc)
     · rw[rO s d]at h
       subst h
       have X:=E.law.stays w hl
       refine⟨I.modify j (λe=>{ e with key:=kf k,val:=vf v }),z,?_,?_,?_,?_⟩
       · simp[execOp,Q,ha.eval hx,ha.eval hk,ha.eval hy,Instr.mapUpdate,ht,MapKept.run_getObj_map h1,K,D,J,S,X,MapKept.run_setObj_map _ h1,Result.andThen]
       · apply List.ext_getElem?
         intro m
         have F:=congrArg (λl=>l[m]?) h2
         simp only[List.getElem?_map]at F
         simp only[List.getElem?_map,Array.getElem?_toList,Array.getElem?_modify,List.getElem?_set]
         rw[Array.getElem?_toList]at F
         by_cases G:j=m
         · subst G
           have hjl:=(bK.1 d).1
           rw[J]
           simp[hjl]
         · rw[if_neg G,if_neg G]
           exact F
       · intro p hp
         rcases List.mem_or_eq_of_mem_set hp with hp | rfl
         · exact B p hp
         · exact u
       · rw[qT d];exact s
    obtain⟨f,A,k1,Y,Z,aa⟩:=H
    unfold Runs
    rw[k1]
    refine c _ ⟨rfl,rfl,rfl,by simp,λg O U=>⟨rfl,?_⟩⟩ ⟨⟨f,A,by simp[V],Y,Z,aa⟩,M⟩
    have:b≠g:=λe=>U (by rw[← e,M];simp)
    simp[Array.getElem?_setIfInBounds_ne this]
  · cases h
end
def guardS (b:Bool):Option Unit:=if b then some () else none
theorem vB {b:Bool}{u:Unit}(h:guardS b=some u):b=true:=by cases b <;> simp[guardS]at h ⊢
-- comparison with nil of what is not empty
theorem Sl.addr {α:Type}{E:Rp α}{S:Nat->Prop}{w:World}{a:Option Addr}{c:Nat}{xs:List α}(h:Sl E S w a c xs) (hn:xs≠[]):∃p,a=some p:=by
 rcases h.2.2 with ⟨e,_⟩ | ⟨b,o,e,_⟩
 · exact absurd e hn
 · exact⟨_,e⟩
section nilcmp
variable {P:Program}{n:Nat}{C:World->Prop}{L:Env}{o:Oper}{x y:Operand}{t t' e:TypeId}{a:Option Addr}{m c:Nat}(ht:∀w,(underlying t).run P w= .ok (.slice e) w) (hs:∃p,a=some p) (hx:opd L x=some (.slice a m c)) (hy:opd L y=some (.slice none 0 0))
include ht hs hx hy
end nilcmp
section dyn
variable {P:Program}{n:Nat}{C:World->Prop}{L:Env}{o:Oper}
theorem qV {xs:List Int}{y:Int}{x ix:Operand}{t e:TypeId}{p:Addr}{len a:Nat}{k:IntKind}{i:Int}(h:idx xs i=some y) (hl:xs.length=len) (ht:∀w,(underlying t).run P w= .ok (.array len e) w) (c:∀w,(sizeOf e).run P w= .ok a w) (b:o.op= .indexAddr t x ix)
 (hx:opd L x=some (.pointer (some p))) (hi:opd L ix=some (.int k i)):Rn P n C o L (.pointer (some (p.add (i.toNat * a)))):=by
 obtain⟨h0,h1,_⟩:=c8 h
 exact iZ ht c b hx hi (by simp only[Bool.and_eq_true,decide_eq_true_eq];omega)
theorem Bc.ldD {κ:Col}{w:World}{q b:Nat}{T:TypeId}{cs:List Value}{xs:List Int}{y i:Int}{k:IntKind}(h:Bc κ w q b T cs){p:Addr}(off:Nat) (a:(cs.drop off).take xs.length=xs.map (Value.int k)) (hx:idx xs i=some y) (hp:p=(⟨b,off,none⟩:Addr).add (i.toNat * 1)):∀w',Ag [q] κ w w'->w'.cell? p=some (.int k y):=λw' c=>by
 obtain⟨h0,h1,h2⟩:=c8 hx
 have:=h.lds (p:=⟨b,off,none⟩) off xs.length rfl w' c (i.toNat * 1) (.int k y) (by
  rw[a,List.getElem?_map,Nat.mul_one]
  rw[h2];rfl)
 rw[hp];exact this
end dyn
theorem qU {P:Program}{n:Nat}{C:World->Prop}{o:Oper}{L:Env}{x:Operand}{t:TypeId}{i:Nat}{b:Array Field}{f:Field}{cs:List Value}{v:Value}(ht:∀w,(underlying t).run P w= .ok (.struct b) w) (hf:b[i]? =some f) (ha:∀w,(isAgg f.type).run P w= .ok false w)
 (d:o.op= .field t x i) (hx:opd L x=some (.agg cs.toArray)) (e:cs[f.offset]? =some v):Rn P n C o L v:=λa w c _=>by
 simp[execOp,d,c.eval hx,Instr.field,ht,hf,asAgg,part,ha,e]
section
variable {T:TypeId}{κ:Col}{w:World}{i:Nat}{a:Option Addr}{c:Nat}
theorem Ow.gZS {β:Type}{E:Rp β}{xs:List β}{x:β}{ix:Int}(h:Oc (Ep.fz E) T κ w i a c xs) (hx:idx xs ix=some x):
 ∃cs:List Value,E.rel (Zl κ w [0,0]) w cs x/\∀w',Ag [0,i] κ w w'->∀(j:Nat) v,cs[j]? =some v->w'.cell? ((aAt a (ix.toNat * E.size)).add j)=some v:=by
 obtain⟨t,h1,h2,f⟩:=h
 obtain⟨z,A,s⟩:=c8 hx
 obtain⟨cs,k,l⟩:=f.get _ _ s
 refine⟨cs,E.st (λb hb=>⟨Zl.mono (by simp) hb,rfl⟩) l,λw' r j v q=>?_⟩
 rcases h1.2 with ⟨_,hn,_⟩ | ⟨g,o,e,rfl,n,u,hc,y,p⟩
 · omega
 · have d:=k j v q
   rw[← p,List.getElem?_take]at d
   split at d
   · have hb:w'.heap[g]? =w.heap[g]?:=r g (Zl.mono (by simp) (h2 g rfl))
     show w'.cell? (((⟨g,o,none⟩:Addr).add _).add _)=_
     rw[Addr.add_add,cell_of_row w' g _ e T (0,0) (hb.trans n)]
     rw[List.getElem?_drop]at d
     have m:(Ep.fz E).size=E.size:=rfl
     rw[m]at d
     simpa [Nat.add_assoc] using d
   · cases d
end
end Go.Wk
set_option linter.unusedVariables false
namespace Go.Wk
open Go
theorem R {α:Type}{a:α}:a=a:=rfl
theorem Ob {α β:Type}{o:Option α}{f:α->Option β}{r:β}{G:Prop}(h:bH o f=some r) (k:∀x,o=some x->f x=some r->G):G:=by
 obtain⟨x,h1,h2⟩:=Option.bind_eq_some_iff.mp h
 exact k x h1 h2
theorem JT {α:Type}{A B:Option α}{r:Option α}{G:Prop}(k:A=r->G) (h:(bif true then A else B)=r):G:=k h
theorem JF {α:Type}{A B:Option α}{r:Option α}{G:Prop}(k:B=r->G) (h:(bif false then A else B)=r):G:=k h
theorem Tv {p:Prop}(h:p):True/\p:=⟨trivial,h⟩
theorem yI {b a β:Type}{f:b->Option β}{g:a->Option β}{s:a}{r:Option β}(h:aft f g (.inr s)=r):g s=r:=h
theorem yL {a b β:Type}{f:a->Option β}{g:b->Option β}{s:a}{r:Option β}(h:aft f g (.inl s)=r):f s=r:=h
def kin:List Nat->Nat->List (Nat×Nat)
 | [],_=>[]
 | k::r,i=>(i,k)::kin r (i+1)
theorem WC.ri {P:Program}{n:Nat}{ops:Array Oper}{Q:Exit->Act->World->Prop}{L:Env}{w:World}{id:Nat}(ks:List Nat) (hB:(kin ks 0).map (·.1)=List.range ops.size) (h:WO P n ops (λ_=>True) (λa w=>Q .normal a w) (kin ks 0) L w):WC P n (.region id ops false) Q L w:=WC.rs (kin ks 0) hB h
theorem Kn.mm {n:Nat}{L:Env}{a:Act}(h:Kn n L a):∀{L':Env},L'.map (λp=>look L p.1)=L'.map (λp=>some p.2)->Kn n L' a
 | [],_=>h.nil
 | (t,v)::r,e=>by
  simp only[List.map_cons,List.cons.injEq]at e
  exact h.more (h.mm e.2) e.1
theorem KM {n:Nat}{L L':Env}(e:L'.map (λp=>look L p.1)=L'.map (λp=>some p.2)):∀a:Act,Kn n L a->Kn n L' a:=λa ha=>ha.mm e
theorem KN {n:Nat}{L:Env}:∀a:Act,Kn n L a->Kn n [] a:=λa ha=>ha.nil
theorem BI {α β:Type}{o:Option α}{f:α->Option β}{r:β}(h:bH o f=some r):∃x,o=some x/\f x=some r:=Option.bind_eq_some_iff.mp h
theorem tv:True:=True.intro
abbrev E6:Ep Int:=Ep.int .i64
abbrev vi (x:Int):Value:= .int .i64 x
abbrev Pvb (κ:Col) (w:World) (r:Bool):Value->World->Prop:=λv w'=>∃(κ':Col),v= .bool r/\Ent κ w κ' w'
abbrev Pvi (κ:Col) (w:World) (r:Int):Value->World->Prop:=λv w'=>∃(κ':Col),v=vi r/\Ent κ w κ' w'
abbrev Pvs {α:Type}(E:Ep α) (T:TypeId) (κ:Col) (w:World) (r:List α):Value->World->Prop:=λv w'=>∃(κ':Col) (a:Option Addr) (b:Nat),v= .slice a r.length b/\Ent κ w κ' w'/\Oc E T κ' w' 2 a b r
abbrev Mk (κ:Col):Col:=λb=>mp [] 0 (κ b)
theorem mp00 (i:Nat):mp [] 0 i=0:=by unfold mp;cases Nat.beq i 0 <;> rfl
theorem Sl.mz {α:Type}{E:Rp α}{κ:Col}{w:World}{i:Nat}{a:Option Addr}{c:Nat}{xs:List α}(h:Rd E κ w i a c xs):Rd E (Mk κ) w 0 a c xs:=h.map (mp [] 0) rfl (mp00 i)
theorem Stp.r0 {X:List Nat}{κ:Col}{w:World}:Stp X κ w κ w:=(Stp.refl κ w).wk rfl
theorem T3 {X0 X1 X2:List Nat}{a k1 k2 b:Col}{c w1 d e:World}(h0:Stp X0 a c k1 w1) (h1:Stp X1 k1 w1 k2 d) (h2:Stp X2 k2 d b e):Stp (X0++(X1++X2)) a c b e:=h0.tr (h1.tr h2)
theorem T4 {X0 X1 X2 X3:List Nat}{a k1 k2 b c:Col}{d w1 e f g:World}(h0:Stp X0 a d k1 w1) (h1:Stp X1 k1 w1 k2 e) (h2:Stp X2 k2 e b f) (i:Stp X3 b f c g):Stp (X0++(X1++(X2++X3))) a d c g:=h0.tr (h1.tr (h2.tr i))
theorem T5 {X0 X1 X2 X3 X4:List Nat}{a k1 k2 b c d:Col}{e w1 f g i j:World}(h0:Stp X0 a e k1 w1) (h1:Stp X1 k1 w1 k2 f) (h2:Stp X2 k2 f b g) (k:Stp X3 b g c i) (l:Stp X4 c i d j):Stp (X0++(X1++(X2++(X3++X4)))) a e d j:=h0.tr (h1.tr (h2.tr (k.tr l)))
theorem T6 {X0 X1 X2 X3 X4 X5:List Nat}{a k1 k2 b c d e:Col}{f w1 g i j k l:World}(h0:Stp X0 a f k1 w1) (h1:Stp X1 k1 w1 k2 g) (h2:Stp X2 k2 g b i) (m:Stp X3 b i c j) (n:Stp X4 c j d k) (o:Stp X5 d k e l):Stp (X0++(X1++(X2++(X3++(X4++X5))))) a f e l:=h0.tr (h1.tr (h2.tr (m.tr (n.tr o))))
theorem T7 {X0 X1 X2 X3 X4 X5 X6:List Nat}{a k1 k2 b c d e k7:Col}{f w1 g i j k l m:World}(h0:Stp X0 a f k1 w1) (h1:Stp X1 k1 w1 k2 g) (h2:Stp X2 k2 g b i) (n:Stp X3 b i c j) (o:Stp X4 c j d k) (p:Stp X5 d k e l) (q:Stp X6 e l k7 m):Stp (X0++(X1++(X2++(X3++(X4++(X5++X6)))))) a f k7 m:=h0.tr (h1.tr (h2.tr (n.tr (o.tr (p.tr q)))))
theorem T8 {X0 X1 X2 X3 X4 X5 X6 X7:List Nat}{a k1 k2 b c d e k7 f:Col}{g w1 i j k l m n o:World}(h0:Stp X0 a g k1 w1) (h1:Stp X1 k1 w1 k2 i) (h2:Stp X2 k2 i b j) (p:Stp X3 b j c k) (q:Stp X4 c k d l) (r:Stp X5 d l e m) (s:Stp X6 e m k7 n) (t:Stp X7 k7 n f o):Stp (X0++(X1++(X2++(X3++(X4++(X5++(X6++X7))))))) a g f o:=h0.tr (h1.tr (h2.tr (p.tr (q.tr (r.tr (s.tr t))))))
theorem T9 {X0 X1 X2 X3 X4 X5 X6 X7 X8:List Nat}{a k1 k2 b c d e k7 f g:Col}{i w1 j k l m n o p q:World}(h0:Stp X0 a i k1 w1) (h1:Stp X1 k1 w1 k2 j) (h2:Stp X2 k2 j b k) (r:Stp X3 b k c l) (s:Stp X4 c l d m) (t:Stp X5 d m e n) (u:Stp X6 e n k7 o) (v:Stp X7 k7 o f p) (w:Stp X8 f p g q):Stp (X0++(X1++(X2++(X3++(X4++(X5++(X6++(X7++X8)))))))) a i g q:=h0.tr (h1.tr (h2.tr (r.tr (s.tr (t.tr (u.tr (v.tr w)))))))
theorem T10 {X0 X1 X2 X3 X4 X5 X6 X7 X8 X9:List Nat}{a k1 k2 c d e f k7 g i b:Col}{j w1 l m n o p q r s k:World}(h0:Stp X0 a j k1 w1) (h1:Stp X1 k1 w1 k2 l) (h2:Stp X2 k2 l c m) (t:Stp X3 c m d n) (u:Stp X4 d n e o) (v:Stp X5 e o f p) (w:Stp X6 f p k7 q) (x:Stp X7 k7 q g r) (y:Stp X8 g r i s) (z:Stp X9 i s b k):Stp (X0++(X1++(X2++(X3++(X4++(X5++(X6++(X7++(X8++X9))))))))) a j b k:=h0.tr (h1.tr (h2.tr (t.tr (u.tr (v.tr (w.tr (x.tr (y.tr z))))))))
theorem T11 {X0 X1 X2 X3 X4 X5 X6 X7 X8 X9 X10:List Nat}{a k1 k2 d e f g k7 i j b c:Col}{k w1 n o p q r s t u l m:World}(h0:Stp X0 a k k1 w1) (h1:Stp X1 k1 w1 k2 n) (h2:Stp X2 k2 n d o) (w:Stp X3 d o e p) (x:Stp X4 e p f q) (y:Stp X5 f q g r) (z:Stp X6 g r k7 s) (A:Stp X7 k7 s i t) (B:Stp X8 i t j u) (C:Stp X9 j u b l) (v:Stp X10 b l c m):Stp (X0++(X1++(X2++(X3++(X4++(X5++(X6++(X7++(X8++(X9++X10)))))))))) a k c m:=h0.tr (h1.tr (h2.tr (w.tr (x.tr (y.tr (z.tr (A.tr (B.tr (C.tr v)))))))))
theorem T12 {X0 X1 X2 X3 X4 X5 X6 X7 X8 X9 X10 X11:List Nat}{a k1 k2 e f g i k7 j k b c d:Col}{l w1 p q r s t u v w m n o:World}(h0:Stp X0 a l k1 w1) (h1:Stp X1 k1 w1 k2 p) (h2:Stp X2 k2 p e q) (z:Stp X3 e q f r) (A:Stp X4 f r g s) (B:Stp X5 g s i t) (C:Stp X6 i t k7 u) (D:Stp X7 k7 u j v) (E:Stp X8 j v k w) (F:Stp X9 k w b m) (x:Stp X10 b m c n) (y:Stp X11 c n d o):Stp (X0++(X1++(X2++(X3++(X4++(X5++(X6++(X7++(X8++(X9++(X10++X11))))))))))) a l d o:=h0.tr (h1.tr (h2.tr (z.tr (A.tr (B.tr (C.tr (D.tr (E.tr (F.tr (x.tr y))))))))))
theorem T13 {X0 X1 X2 X3 X4 X5 X6 X7 X8 X9 X10 X11 X12:List Nat}{a k1 k2 f g i j k7 k l b c d e:Col}{m w1 r s t u v w x y n o p q:World}(h0:Stp X0 a m k1 w1) (h1:Stp X1 k1 w1 k2 r) (h2:Stp X2 k2 r f s) (C:Stp X3 f s g t) (D:Stp X4 g t i u) (E:Stp X5 i u j v) (F:Stp X6 j v k7 w) (G:Stp X7 k7 w k x) (H:Stp X8 k x l y) (I:Stp X9 l y b n) (z:Stp X10 b n c o) (A:Stp X11 c o d p) (B:Stp X12 d p e q):Stp (X0++(X1++(X2++(X3++(X4++(X5++(X6++(X7++(X8++(X9++(X10++(X11++X12)))))))))))) a m e q:=h0.tr (h1.tr (h2.tr (C.tr (D.tr (E.tr (F.tr (G.tr (H.tr (I.tr (z.tr (A.tr B)))))))))))
theorem T14 {X0 X1 X2 X3 X4 X5 X6 X7 X8 X9 X10 X11 X12 X13:List Nat}{a k1 k2 g i j k k7 l m b c d e f:Col}{n w1 t u v w x y z A o p q r s:World}(h0:Stp X0 a n k1 w1) (h1:Stp X1 k1 w1 k2 t) (h2:Stp X2 k2 t g u) (F:Stp X3 g u i v) (G:Stp X4 i v j w) (H:Stp X5 j w k x) (I:Stp X6 k x k7 y) (J:Stp X7 k7 y l z) (K:Stp X8 l z m A) (L:Stp X9 m A b o) (B:Stp X10 b o c p) (C:Stp X11 c p d q) (D:Stp X12 d q e r) (E:Stp X13 e r f s):Stp (X0++(X1++(X2++(X3++(X4++(X5++(X6++(X7++(X8++(X9++(X10++(X11++(X12++X13))))))))))))) a n f s:=h0.tr (h1.tr (h2.tr (F.tr (G.tr (H.tr (I.tr (J.tr (K.tr (L.tr (B.tr (C.tr (D.tr E))))))))))))
theorem T15 {X0 X1 X2 X3 X4 X5 X6 X7 X8 X9 X10 X11 X12 X13 X14:List Nat}{a k1 k2 i j k l k7 m n b c d e f g:Col}{o w1 v w x y z A B C p q r s t u:World}(h0:Stp X0 a o k1 w1) (h1:Stp X1 k1 w1 k2 v) (h2:Stp X2 k2 v i w) (I:Stp X3 i w j x) (J:Stp X4 j x k y) (K:Stp X5 k y l z) (L:Stp X6 l z k7 A) (M:Stp X7 k7 A m B) (N:Stp X8 m B n C) (O:Stp X9 n C b p) (D:Stp X10 b p c q) (E:Stp X11 c q d r) (F:Stp X12 d r e s) (G:Stp X13 e s f t) (H:Stp X14 f t g u):Stp (X0++(X1++(X2++(X3++(X4++(X5++(X6++(X7++(X8++(X9++(X10++(X11++(X12++(X13++X14)))))))))))))) a o g u:=h0.tr (h1.tr (h2.tr (I.tr (J.tr (K.tr (L.tr (M.tr (N.tr (O.tr (D.tr (E.tr (F.tr (G.tr H)))))))))))))
theorem T16 {X0 X1 X2 X3 X4 X5 X6 X7 X8 X9 X10 X11 X12 X13 X14 X15:List Nat}{a k1 k2 j k l m k7 n o b c d e f g i:Col}{p w1 x y z A B C D E q r s t u v w:World}(h0:Stp X0 a p k1 w1) (h1:Stp X1 k1 w1 k2 x) (h2:Stp X2 k2 x j y) (L:Stp X3 j y k z) (M:Stp X4 k z l A) (N:Stp X5 l A m B) (O:Stp X6 m B k7 C) (P:Stp X7 k7 C n D) (Q:Stp X8 n D o E) (R:Stp X9 o E b q) (F:Stp X10 b q c r) (G:Stp X11 c r d s) (H:Stp X12 d s e t) (I:Stp X13 e t f u) (J:Stp X14 f u g v) (K:Stp X15 g v i w):Stp (X0++(X1++(X2++(X3++(X4++(X5++(X6++(X7++(X8++(X9++(X10++(X11++(X12++(X13++(X14++X15))))))))))))))) a p i w:=h0.tr (h1.tr (h2.tr (L.tr (M.tr (N.tr (O.tr (P.tr (Q.tr (R.tr (F.tr (G.tr (H.tr (I.tr (J.tr K))))))))))))))
theorem qM (a:IntKind):∀xs:List Int,((xs.map (Value.int a)).flatMap λv=>v.cells.toList)=xs.map (Value.int a)
 | []=>rfl
 | x::xs=>congrArg (Value.int a x:: ·) (qM a xs)
theorem sQ (a:IntKind):∀xs:List Int,((xs.map (Value.int a)).all λv=>Nat.beq v.cells.size 1)=true
 | []=>rfl
 | x::xs=>sQ a xs
theorem sR (a:IntKind){κ:Col}{w:World}:∀xs:List Int,LstO (Ep.int a) (Zl κ w [0]) w (Zl κ w []) (xs.map (Value.int a)) xs
 | []=>rfl
 | x::xs=>⟨[.int a x],xs.map (Value.int a),Zl κ w [],Zl κ w [],rfl,λb hb=>⟨hb,λh=>by cases h.2⟩,λb hb=>hb,rfl,sR a xs⟩
section
variable {P:Program}{n:Nat}{Q:Exit->Act->World->Prop}{L L':Env}{w:World}{ops:Array Oper}{N:Act->World->Prop}{r r':List (Nat×Nat)}{i d:Nat}{o:Oper}{v:Value}{C:World->Prop}
theorem WO.fs {y:Code}(h:WC P n y Q L w):WO P n ops C (λa w=>Exit.then (y.wp P Q) Q .normal a w) [] L w:=WO.fin (Q:=Exit.then (y.wp P Q) Q) (DN.seq h)
theorem WO.pnf (m:Nat) (e:Wk.pn ops n m r L=some ([],L')) (h:DN n Q .normal L' w):WO P n ops C (λa w=>Q .normal a w) r L w:=WO.pn m e (WO.fin h)
theorem WO.pns (m:Nat){y:Code}(e:Wk.pn ops n m r L=some ([],L')) (h:WC P n y Q L' w):WO P n ops C (λa w=>Exit.then (y.wp P Q) Q .normal a w) r L w:=WO.pn m e (WO.fs h)
theorem WC.sri {x:Nat}{y:Code}(ks:List Nat) (hB:(kin ks 0).map (·.1)=List.range ops.size) (h:WO P n ops (λ_=>True) (λa w=>Exit.then (y.wp P Q) Q .normal a w) (kin ks 0) L w):WC P n (.seq (.region x ops false) y) Q L w:=WC.seq (WC.ri ks hB h)
def gop (ops:Array Oper) (L:Env) (n i:Nat):Option (Oper×Nat):=
 match ops[i]? with
 | some o=>match gd ops L o with
  | some true=>match o.dst with
   | some d=>match Nat.blt d n with
    | true=>some (o,d)
    | false=>none
   | none=>none
  | _=>none
 | none=>none
theorem di (h:gop ops L n i=some (o,d)):ops[i]? =some o/\gd ops L o=some true/\o.dst=some d/\Nat.blt d n=true:=by
 unfold gop at h
 split at h
 · rename_i g a
   split at h
   · rename_i b
     split at h
     · rename_i f c
       split at h
       · rename_i e
         simp only[Option.some.injEq,Prod.mk.injEq]at h
         obtain⟨rfl,rfl⟩:=h
         exact⟨a,b,c,e⟩
       · cases h
     · cases h
   · cases h
 · cases h
theorem WO.k0g (g:gop ops L n i=some (o,d)) (hr:Rn P n C o L v) (k:WO P n ops C N r ((d,v)::L) w):WO P n ops C N ((i,0)::r) L w:=
 WO.k0 (di g).1 (di g).2.1 (di g).2.2.1 (di g).2.2.2 hr k
theorem WO.k2g (g:gop ops L n i=some (o,d)) (hr:Rn P n (λ_=>True) o L v) (k:WO P n ops C N r ((d,v)::L) w):WO P n ops C N ((i,2)::r) L w:=
 WO.k2 (di g).1 (di g).2.1 (di g).2.2.1 (di g).2.2.2 hr k
theorem WO.callg (g:gop ops L n i=some (o,d)){f:FuncId}{xs:List Operand}{e:Array TypeId}{a:List Value}
 (b:o.op= .call { callee:= .value (.func f),args:=xs.toArray,argTypes:=e }) (c:opds L xs=some a) (hc:∀(as:Array Value) (w:World),(callFunc f as).run P w= .ok (.enter f as) w)
 {R:Value->World->Prop} (h:Ret P f a w R) (k:∀v w',R v w'->C w'/\WO P n ops C N r ((d,v)::L) w'):WO P n ops C N ((i,1)::r) L w:=
 WO.call (di g).1 (di g).2.1 (di g).2.2.1 (di g).2.2.2 b c hc h k
theorem uV:∀(ks:List Nat) (i:Nat),(kin ks i).map (·.1)=List.range' i ks.length
 | [],_=>rfl
 | k::r,i=>by
  show i::(kin r (i+1)).map (·.1)=_
  rw[uV r (i+1)];rfl
theorem oV {ks:List Nat}{k:Nat}(h:ks.length=k):(kin ks 0).map (·.1)=List.range k:=by
 rw[uV,h,List.range_eq_range']
theorem WC.pb {x:Nat}{y:Code}(e:Wk.pn ops n ops.size (kin (bO ops.size 2) 0) L=some ([],L')) (h:WC P n y Q L' w):WC P n (.seq (.region x ops false) y) Q L w:=
 WC.sri (bO ops.size 2) (oV (List.length_replicate ..)) (WO.pns ops.size e h)
theorem WC.pf {x:Nat}(e:Wk.pn ops n ops.size (kin (bO ops.size 2) 0) L=some ([],L')) (h:DN n Q .normal L' w):WC P n (.region x ops false) Q L w:=
 WC.ri (bO ops.size 2) (oV (List.length_replicate ..)) (WO.pnf ops.size e h)
def pst (ops:Array Oper) (n:Nat) (ks:List Nat) (m:Nat) (L:Env):Option (List (Nat×Nat)×Env):=
 match Nat.beq ks.length ops.size with
 | true=>Wk.pn ops n m (kin ks 0) L
 | false=>none
theorem rN {ks:List Nat}{m:Nat}(h:pst ops n ks m L=some (r',L')):ks.length=ops.size/\Wk.pn ops n m (kin ks 0) L=some (r',L'):=by
 unfold pst at h
 split at h
 · rename_i e;exact⟨Nat.eq_of_beq_eq_true e,h⟩
 · cases h
theorem WC.pm {x:Nat}{y:Code}(ks:List Nat) (m:Nat) (e:pst ops n ks m L=some (r',L')) (h:WO P n ops (λ_=>True) (λa w=>Exit.then (y.wp P Q) Q .normal a w) r' L' w):WC P n (.seq (.region x ops false) y) Q L w:=
 WC.sri ks (oV (rN e).1) (WO.pn m (rN e).2 h)
theorem WC.pr {x:Nat}(ks:List Nat) (m:Nat) (e:pst ops n ks m L=some (r',L')) (h:WO P n ops (λ_=>True) (λa w=>Q .normal a w) r' L' w):WC P n (.region x ops false) Q L w:=
 WC.ri ks (oV (rN e).1) (WO.pn m (rN e).2 h)
def gld (ops:Array Oper) (L:Env) (n i:Nat):Option (TypeId×Addr×Nat):=
 match gop ops L n i with
 | some (o,d)=>match o.op with
  | .load t x=>match opd L x with
   | some (.pointer (some p))=>some (t,p,d)
   | _=>none
  | _=>none
 | none=>none
theorem WO.ldq {t:TypeId}{p:Addr}{l:List Nat}{κ:Col}(g:gld ops L n i=some (t,p,d)) (ht:∀w,(isAgg t).run P w= .ok false w) (e:∀w',Ag l κ w w'->w'.cell? p=some v) (k:WO P n ops (λ_=>True) N r ((d,v)::L) w):WO P n ops (λ_=>True) N ((i,1)::r) L w:=by
 unfold gld at g
 split at g
 · rename_i j f a
   split at g
   · rename_i t' x b
     split at g
     · rename_i m c
       simp only[Option.some.injEq,Prod.mk.injEq]at g
       obtain⟨rfl,rfl,rfl⟩:=g
       exact WO.k1 trivial (di a).1 (di a).2.1 (di a).2.2.1 (di a).2.2.2 (yF ht b c (hvE e)) k
     · cases g
   · cases g
 · cases g
def gfa (ops:Array Oper) (L:Env) (n i:Nat):Option (TypeId×Nat×Addr×Nat):=
 match gop ops L n i with
 | some (o,d)=>match o.op with
  | .fieldAddr t x j=>match opd L x with
   | some (.pointer (some p))=>some (t,j,p,d)
   | _=>none
  | _=>none
 | none=>none
theorem WO.faq {t:TypeId}{j:Nat}{p:Addr}{a:Array Field}{f:Field}{l:Nat}(g:gfa ops L n i=some (t,j,p,d)) (ht:∀w,(underlying t).run P w= .ok (.struct a) w) (hf:a[j]? =some f) (hk:∀w,(sizeOf f.type).run P w= .ok (l+1) w) (k:WO P n ops C N r ((d,.pointer (some (p.add f.offset)))::L) w):WO P n ops C N ((i,2)::r) L w:=by
 unfold gfa at g
 split at g
 · rename_i q m b
   split at g
   · rename_i t' x o c
     split at g
     · rename_i s e
       simp only[Option.some.injEq,Prod.mk.injEq]at g
       obtain⟨rfl,rfl,rfl,rfl⟩:=g
       exact WO.k2g b (rQ ht hf hk c e) k
     · cases g
   · cases g
 · cases g
def gix (ops:Array Oper) (L:Env) (n i:Nat):Option (TypeId×Option Addr×Nat×Nat×IntKind×Int×Nat):=
 match gop ops L n i with
 | some (o,d)=>match o.op with
  | .indexAddr t x ix=>match opd L x with
   | some (.slice a l c)=>match opd L ix with
    | some (.int b z)=>some (t,a,l,c,b,z,d)
    | _=>none
   | _=>none
  | _=>none
 | none=>none
theorem WO.ixq {α:Type}{E:Rp α}{S:Nat->Prop}{s:World}{t e:TypeId}{a:Option Addr}{c b:Nat}{q:IntKind}{z:Int}{xs:List α}{y:α}(g:gix ops L n i=some (t,a,xs.length,c,q,z,d)) (hs:Sl E S s a c xs) (h:idx xs z=some y)
 (ht:∀w,(underlying t).run P w= .ok (.slice e) w) (p:∀w,(sizeOf e).run P w= .ok b w) (k:WO P n ops C N r ((d,.pointer (some (aAt a (z.toNat * b))))::L) w):WO P n ops C N ((i,2)::r) L w:=by
 unfold gix at g
 split at g
 · rename_i D A f
   split at g
   · rename_i t' x ix j
     split at g
     · rename_i u B v l
       split at g
       · rename_i k' F m
         simp only[Option.some.injEq,Prod.mk.injEq]at g
         obtain⟨rfl,rfl,o,rfl,rfl,rfl,rfl⟩:=g
         exact WO.k2g f (tm hs h ht p j l o m) k
       · cases g
     · cases g
   · cases g
 · cases g
theorem Ret.in1 {f:FuncId}{fn:Func}{c:Code}{a:List Value}(κ:Col){R:Value->World->Prop}(hf:P.funcs[f]? =some fn) (hb:fn.body=some c) (hn:fn.ntmps=n) (hl:Nat.ble a.length n=true) (k:Ent κ w κ w->WC P n c (bodyPost P fn (λe w'=>∃v,e= .returned v/\R v w')) (sK 0 a) w):Ret P f a w R:=Ret.enter hf hb hn hl (k (Ent.refl κ w))
theorem WO.lnr {x:Operand}{t e:TypeId}{a:Option Addr}{l c:Nat}(g:gop ops L n i=some (o,d)) (ht:∀w,(underlying t).run P w= .ok (.slice e) w) (b:o.op= .call { callee:= .builtin .len,args:= #[x],argTypes:= #[t] })
 (hx:opd L x=some (.slice a l c)) (k:WO P n ops C N r ((d,.int .i64 (l:Int))::L) w):WO P n ops C N ((i,2)::r) L w:=WO.k2g g (zl ht b hx) k
def gos (ops:Array Oper) (L:Env) (i:Nat):Option Oper:=
 match ops[i]? with
 | some o=>match gd ops L o with
  | some true=>match o.dst with
   | none=>some o
   | some _=>none
  | _=>none
 | none=>none
theorem tW (h:gos ops L i=some o):ops[i]? =some o/\gd ops L o=some true/\o.dst=none:=by
 unfold gos at h
 split at h
 · rename_i d a
   split at h
   · rename_i b
     split at h
     · rename_i c
       simp only[Option.some.injEq]at h
       obtain rfl:=h
       exact⟨a,b,c⟩
     · cases h
   · cases h
 · cases h
def gof (ops:Array Oper) (L:Env) (n i:Nat):Option (Oper×Nat):=
 match ops[i]? with
 | some o=>match gd ops L o with
  | some false=>match o.dst with
   | some d=>match Nat.blt d n with
    | true=>some (o,d)
    | false=>none
   | none=>none
  | _=>none
 | none=>none
theorem mf (h:gof ops L n i=some (o,d)):ops[i]? =some o/\gd ops L o=some false/\o.dst=some d/\Nat.blt d n=true:=by
 unfold gof at h
 split at h
 · rename_i g a
   split at h
   · rename_i b
     split at h
     · rename_i f c
       split at h
       · rename_i e
         simp only[Option.some.injEq,Prod.mk.injEq]at h
         obtain⟨rfl,rfl⟩:=h
         exact⟨a,b,c,e⟩
       · cases h
     · cases h
   · cases h
 · cases h
theorem WO.lsq (g:gof ops L n i=some (o,d)) (k:WO P n ops C N r ((d,undef)::L) w):WO P n ops C N ((i,1)::r) L w:=WO.ls (mf g).1 (mf g).2.1 (mf g).2.2.1 (mf g).2.2.2 k
theorem WO.qsq (g:gof ops L n i=some (o,d)) (k:WO P n ops C N r ((d,undef)::L) w):WO P n ops C N ((i,0)::r) L w:=WO.qs (mf g).1 (mf g).2.1 (mf g).2.2.1 (mf g).2.2.2 k
theorem WO.k1q (a:C w) (g:gop ops L n i=some (o,d)) (hr:Rn P n (λx=>x=w) o L v) (k:WO P n ops C N r ((d,v)::L) w):WO P n ops C N ((i,1)::r) L w:=
 WO.k1 a (di g).1 (di g).2.1 (di g).2.2.1 (di g).2.2.2 hr k
theorem WO.callq {f:FuncId}{xs:List Operand}{b:Array TypeId}{a:List Value}(e:(gop ops L n i,o.op,opds L xs)=(some (o,d),.call { callee:= .value (.func f),args:=xs.toArray,argTypes:=b },some a))
 (hc:∀(as:Array Value) (w:World),(callFunc f as).run P w= .ok (.enter f as) w) {R:Value->World->Prop} (h:Ret P f a w R) (k:∀v w',R v w'->C w'/\WO P n ops C N r ((d,v)::L) w'):WO P n ops C N ((i,1)::r) L w:=
 WO.callg (congrArg (·.1) e) (congrArg (·.2.1) e) (congrArg (·.2.2) e) hc h k
theorem zk {x:Operand}{t:TypeId}{p:Addr}{cs:List Value}{k:Nat}(a:∀w,C w->∀(j:Nat) v,cs[j]? =some v->w.cell? (p.add j)=some v) (ht:∀w,(isAgg t).run P w= .ok true w) (hk:∀w,(sizeOf t).run P w= .ok k w)
 (e:(o.op,opd L x,cs.length)=(.load t x,some (.pointer (some p)),k)):Rn P n C o L (.agg cs.toArray):=zP ht hk (congrArg (·.1) e) (congrArg (·.2.1) e) (congrArg (·.2.2) e) a
theorem WO.boxq {κ:Col}(q:Nat){T:TypeId}{x:Operand}{cs:List Value}(e:(gop ops L n i,o.op,opd L x,v.cells)=(some (o,d),.box T x,some v,cs.toArray))
 (k:∀b w' κ',Stp [] κ w κ' w'->Bc κ' w' q b T cs->C w'/\WO P n ops C N r ((d,.pointer (some ⟨b,0,none⟩))::L) w'):WO P n ops C N ((i,1)::r) L w:=
 have g:=di (congrArg (·.1) e);WO.box q g.1 g.2.1 g.2.2.1 g.2.2.2 (congrArg (·.2.1) e) (congrArg (·.2.2.1) e) (congrArg (·.2.2.2) e) k
theorem WO.allocq {κ:Col}(q:Nat){T:TypeId}{z:Value}{cs:List Value}(e:(gop ops L n i,o.op)=(some (o,d),.alloc T)) (c:∀w,(zeroValue T).run P w= .ok z w) (a:z.cells=cs.toArray)
 (k:∀b w' κ',Stp [] κ w κ' w'->Bc κ' w' q b T cs->C w'/\WO P n ops C N r ((d,.pointer (some ⟨b,0,none⟩))::L) w'):WO P n ops C N ((i,1)::r) L w:=
 have g:=di (congrArg (·.1) e);WO.alloc q g.1 g.2.1 g.2.2.1 g.2.2.2 (congrArg (·.2) e) c a k
theorem WO.stBq {κ:Col}(q:Nat){t T:TypeId}{x y:Operand}{b off a:Nat}{cs vc cs':List Value}
 (e:(gos ops L i,o.op,opd L x,opd L y,v.cells)=(some o,.store t x y,some (.pointer (some ((⟨b,0,none⟩:Addr).add off))),some v,vc.toArray)) (f:∀w,(sizeOf t).run P w= .ok a w) (c:(vc.length,(vc.all λu=>u.oneCell'))=(a,true))
 (hb:Bc κ w q b T cs) (d:(Nat.ble (off+a) cs.length,cs.take off++vc++cs.drop (off+a))=(true,cs'))
 (k:∀w',Stp [q] κ w κ w'->Bc κ w' q b T cs'->C w'/\WO P n ops C N r L w'):WO P n ops C N ((i,1)::r) L w:=
 have g:=tW (congrArg (·.1) e);WO.stB q g.1 g.2.1 g.2.2 (congrArg (·.2.1) e) (congrArg (·.2.2.1) e) (congrArg (·.2.2.2.1) e) (congrArg (·.2.2.2.2) e) f (congrArg (·.1) c) (congrArg (·.2) c) hb (congrArg (·.1) d) (congrArg (·.2) d) k
theorem WO.stB0q {κ:Col}(q:Nat){t T:TypeId}{x y:Operand}{b a:Nat}{cs vc:List Value}
 (e:(gos ops L i,o.op,opd L x,opd L y,v.cells)=(some o,.store t x y,some (.pointer (some ⟨b,0,none⟩)),some v,vc.toArray)) (f:∀w,(sizeOf t).run P w= .ok a w) (c:(vc.length,(vc.all λu=>u.oneCell'))=(a,true))
 (hb:Bc κ w q b T cs) (d:cs.length=a)
 (k:∀w',Stp [q] κ w κ w'->Bc κ w' q b T vc->C w'/\WO P n ops C N r L w'):WO P n ops C N ((i,1)::r) L w:=
 have g:=tW (congrArg (·.1) e);WO.stB0 q g.1 g.2.1 g.2.2 (congrArg (·.2.1) e) (congrArg (·.2.2.1) e) (congrArg (·.2.2.2.1) e) (congrArg (·.2.2.2.2) e) f (congrArg (·.1) c) (congrArg (·.2) c) hb d k
theorem WO.blq {κ:Col}{α:Type}{E:Ep α}(q:Nat) (l:List Nat){t T:TypeId}{len:Nat}{parts:List (Nat×Operand)}{f:List Value}{cells:List Value}{m:Value}{j:TypeInfo}{xs:List α}
 (e:(gop ops L n i,o.op,opds L (parts.map (·.2)))=(some (o,d),.buildSlice t len parts.toArray,some f)) (ht:P.underlying t=some (.slice T)) (hi:P.info? T=some j)
 (b:(j.zero,j.size,Nat.ble (len * j.size) 16777216,Nat.blt 0 (len * j.size),List.zip (parts.map (·.1)) f,f.length,(f.flatMap λv=>v.cells.toList),xs.length,(f.all λv=>Nat.beq v.cells.size E.size),nin l 0)=(some m,E.size,true,true,((f.zipIdx 0).map λx=>(x.2,x.1)),len,cells,len,true,true))
 (hl:LstO E (Zl κ w [0]) w (Zl κ w l) cells xs)
 (k:∀a c w' κ',Stp l κ w κ' w'->Oc E T κ' w' q a c xs->C w'/\WO P n ops C N r ((d,.slice a xs.length c)::L) w'):WO P n ops C N ((i,1)::r) L w:=
 have g:=di (congrArg (·.1) e);WO.bl q l g.1 g.2.1 g.2.2.1 g.2.2.2 (congrArg (·.2.1) e) (congrArg (·.2.2) e) ht hi (congrArg (·.1) b) (congrArg (·.2.1) b) (congrArg (·.2.2.1) b) (congrArg (·.2.2.2.1) b) (congrArg (·.2.2.2.2.1) b) (congrArg (·.2.2.2.2.2.1) b) (congrArg (·.2.2.2.2.2.2.1) b) (congrArg (·.2.2.2.2.2.2.2.1) b) (congrArg (·.2.2.2.2.2.2.2.2.1) b) (congrArg (·.2.2.2.2.2.2.2.2.2) b) hl k
theorem WO.bl0q {κ:Col}{α:Type}{E:Ep α}(q:Nat){t T:TypeId}{b:TypeInfo}(e:(gop ops L n i,o.op)=(some (o,d),.buildSlice t 0 #[])) (ht:P.underlying t=some (.slice T)) (hi:P.info? T=some b) (hs:b.size=E.size)
 (k:∀a c w' κ',Stp [] κ w κ' w'->Oc E T κ' w' q a c ([]:List α)->C w'/\WO P n ops C N r ((d,.slice a ([]:List α).length c)::L) w'):WO P n ops C N ((i,1)::r) L w:=
 have g:=di (congrArg (·.1) e);WO.bl0 q g.1 g.2.1 g.2.2.1 g.2.2.2 (congrArg (·.2) e) ht hi hs k
theorem WO.appq {κ:Col}{α:Type}{E:Ep α}(q:Nat) (l:List Nat){t T:TypeId}{x y:Operand}{p:Nat}{z:Value}{j:TypeInfo}{a ay:Option Addr}{c cy u v:Nat}{xs ys zs:List α}{Sy:Nat->Prop}
 (e:(gop ops L n i,o.op,opd L x,u,opd L y,v)=(some (o,d),.call { callee:= .builtin .append,args:= #[x,y],argTypes:= #[t,t] },some (.slice a u c),xs.length,some (.slice ay v cy),ys.length))
 (ht:P.underlying t=some (.slice T)) (D:P.info? T=some j) (f:(j.zero,j.size,j.bytes,z.cells.size)=(some z,E.size,p,E.size))
 (F:Oc E T κ w q a c xs) (G:SrcO E (Zl κ w [0]) Sy w ay cy ys) (A:∀b,Sy b->Zl κ w l b/\κ b≠q) (B:appS p xs ys=some zs) (h0:nin (q::l) 0=true)
 (k:∀m s w' κ',Stp (q::l) κ w κ' w'->Oc E T κ' w' q m s zs->C w'/\WO P n ops C N r ((d,.slice m zs.length s)::L) w'):WO P n ops C N ((i,1)::r) L w:=
 have g:=di (congrArg (·.1) e);WO.app q l g.1 g.2.1 g.2.2.1 g.2.2.2 (congrArg (·.2.1) e) (congrArg (·.2.2.1) e) (congrArg (·.2.2.2.1) e) (congrArg (·.2.2.2.2.1) e) (congrArg (·.2.2.2.2.2) e) ht D (congrArg (·.1) f) (congrArg (·.2.1) f) (congrArg (·.2.2.1) f) (congrArg (·.2.2.2) f) F G A B h0 k
theorem WO.bli {κ:Col}{b:IntKind}(q:Nat) (xs:List Int){t T:TypeId}{len:Nat}{parts:List (Nat×Operand)}{l:Value}{j:TypeInfo}
 (e:(gop ops L n i,o.op,opds L (parts.map (·.2)))=(some (o,d),.buildSlice t len parts.toArray,some (xs.map (Value.int b)))) (ht:P.underlying t=some (.slice T)) (hi:P.info? T=some j)
 (f:(j.zero,j.size,Nat.ble (len * j.size) 16777216,Nat.blt 0 (len * j.size),List.zip (parts.map (·.1)) (xs.map (Value.int b)),xs.length)=(some l,1,true,true,(((xs.map (Value.int b)).zipIdx 0).map λx=>(x.2,x.1)),len))
 (k:∀a c w' κ',Stp [] κ w κ' w'->Oc (Ep.int b) T κ' w' q a c xs->C w'/\WO P n ops C N r ((d,.slice a xs.length c)::L) w'):WO P n ops C N ((i,1)::r) L w:=
 have g:=di (congrArg (·.1) e)
 WO.bl (E:=Ep.int b) q [] g.1 g.2.1 g.2.2.1 g.2.2.2 (congrArg (·.2.1) e) (congrArg (·.2.2) e) ht hi (congrArg (·.1) f) (congrArg (·.2.1) f) (congrArg (·.2.2.1) f) (congrArg (·.2.2.2.1) f) (congrArg (·.2.2.2.2.1) f) ((List.length_map ..).trans (congrArg (·.2.2.2.2.2) f)) (qM b xs) (congrArg (·.2.2.2.2.2) f) (sQ b xs) rfl (sR b xs) k
theorem LstO.o1 {α:Type}{E:Ep α}{κ:Col}{l:List Nat}{cells:List Value}{x:α}(h:E.rel (Zl κ w [0]) (Zl κ w l) w cells x):LstO E (Zl κ w [0]) w (Zl κ w l) cells [x]:=
 ⟨cells,[],Zl κ w l,Zl κ w [],(List.append_nil _).symm,λb hb=>⟨hb,λh=>by cases h.2⟩,λb hb=>Zl.mono (by simp) hb,h,rfl⟩
theorem WO.meetB {E:Env}(ks:List Nat) (k:Nat) (p:Bool) (κ:Col) (d:World) (b c:List (Nat×Nat)) (e:C w)
 (h:WO P n ops C (λa w=>∃L,(C w/\(L=(k,.bool p)::E/\∃κ',Stp [] κ d κ' w))/\Kn n L a) b L w) (f:∀L w,C w->(L=(k,.bool p)::E/\∃κ',Stp [] κ d κ' w)->WO P n ops C N c L w)
 (hE:Kp ks L E:=by repeat (first | exact Kp.nil | apply Kp.cons | exact Gp.here | apply Gp.next)):WO P n ops C N (b++c) L w:=WO.meet b c (λL w'=>L=(k,.bool p)::E/\∃κ',Stp [] κ d κ' w') e h f
theorem WO.metB {p:Bool}{κ:Col}{k:Nat}{E:Env}(b:C w) (hm:(((k,Value.bool p)::E).map λx=>look L x.1)=((k,Value.bool p)::E).map λx=>some x.2):WO P n ops C (λa w'=>∃L,(C w'/\(L=(k,.bool p)::E/\∃κ',Stp [] κ w κ' w'))/\Kn n L a) [] L w:=
 WO.met (I:=λL w'=>L=(k,.bool p)::E/\∃κ',Stp [] κ w κ' w') _ b ⟨rfl,_,Stp.r0⟩ λa ha=>ha.mm hm
theorem WO.stB0a {κ:Col}(q:Nat){t T:TypeId}{x y:Operand}{b a:Nat}{cs vc:List Value}
 (e:(gos ops L i,o.op,opd L x,opd L y)=(some o,.store t x y,some (.pointer (some ⟨b,0,none⟩)),some (.agg vc.toArray))) (f:∀w,(sizeOf t).run P w= .ok a w) (c:(vc.length,(vc.all λu=>u.oneCell'))=(a,true))
 (hb:Bc κ w q b T cs) (d:cs.length=a)
 (k:∀w',Stp [q] κ w κ w'->Bc κ w' q b T vc->C w'/\WO P n ops C N r L w'):WO P n ops C N ((i,1)::r) L w:=
 have g:=tW (congrArg (·.1) e)
 WO.stB0 (vc:=vc) q g.1 g.2.1 g.2.2 (congrArg (·.2.1) e) (congrArg (·.2.2.1) e) (congrArg (·.2.2.2) e) rfl f (congrArg (·.1) c) (congrArg (·.2) c) hb d k
theorem zf {t:TypeId}{parts:List (Nat×Operand)}{a:List Value}(cells:List Value) (e:(o.op,opds L (parts.map (·.2)))=(.build t parts.toArray,some a)) (hb:P.built t (List.zip (parts.map (·.1)) a)=some cells.toArray:=by kernel_rfl):Rn P n C o L (.agg cells.toArray):=wZ (congrArg (·.1) e) (congrArg (·.2) e) hb
end
end Go.Wk
