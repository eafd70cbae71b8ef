/- Steps that write memory of the call's own: make, literals, append, stores, parts of slices. -/
import Derived.Test.YtgbippnfaoedmaaGreatDoorFaBG
import Derived.DeepKeys4
import Derived.WideKeyArr
import Derived.Laws.StructEq
import Derived.WalkKit
import Derived.ProofKit
import Derived.OpenShut
import Derived.ShutString
import Derived.ChangeOld
import Derived.Below
import Derived.Lib.SmallJoins
import Derived.Deep.Slices
set_option linter.unusedVariables false
set_option linter.unusedSimpArgs false
open Array renaming getElem?_eq_some_iff → pm, length_toList → yK
open List renaming append_assoc → yM, drop_append → yN, drop_drop → yO, drop_take → yP, drop_zero → yQ, eq_nil_of_length_eq_zero → yR, ext_getElem? → yS, getElem?_append_left → yT, getElem?_append_right → yU, getElem?_cons_zero → yV, getElem?_drop → yW, getElem?_eq_some_iff → yo, getElem?_map → yX, getElem?_take → yp, length_append → yq, length_drop → yY, length_replicate → yZ, length_take → y8, map_append → y9, map_cons → yt, mem_cons_of_mem → zd, mem_of_getElem? → ze, replicate → zf, size_toArray → zg, take_append → zh, take_of_length_le → zi, take_take → zj, zip → zk
open Nat renaming add_mul → yy, beq → yA, ble → yB, blt → yC, le_refl → yE, mul_le_mul_right → zl
open Option renaming bind → zm, map_some → zn
open Option.some renaming injEq → yJ
namespace Go.Wk
open Go
abbrev Tch (m:Nat) (w w':World):Prop:=Fr (λb=>b<w.heap.size/\b+1≠m) w w'
theorem Tch.setRow (w:World) (g:Nat) (cs:Array Value):Tch (g+1) w (w.setRow g cs):=⟨rfl,rfl,rfl,by simp,λb a=>setRow_other w g b cs (by have:=a.2;omega)⟩
def setI {α:Type}(xs:List α) (i:Int) (v:α):Option (List α):=if 0<=i/\i<xs.length then some (xs.set i.toNat v) else none
theorem mB {α:Type}{xs ys:List α}{i:Int}{v:α}(h:setI xs i v=some ys):0<=i/\i<xs.length/\ys=xs.set i.toNat v/\ys.length=xs.length:=by
 unfold setI at h
 split at h
 .rename_i a
  simp only[yJ]at h
  subst h
  exact⟨a.1,a.2,rfl,by simp⟩
 .cases h
def mkS {α:Type}(a:Nat) (n:Int) (z:α):Option (List α):=if 0<=n/\n<=9223372036854775807/\a * n.toNat<=281474976710656 then some (zf n.toNat z) else none
def mkC {α:Type}(a:Nat) (n c:Int) (z:α):Option (List α):=if 0<=n/\n<=c/\c<=9223372036854775807/\a * c.toNat<=281474976710656 then some (zf n.toNat z) else none
theorem xu {α:Type}{b:Nat}{n c:Int}{z:α}{xs:List α}(h:mkC b n c z=some xs):0<=n/\n<=c/\c<=9223372036854775807/\b * c.toNat<=281474976710656/\xs=zf n.toNat z:=by
 unfold mkC at h
 split at h
 .rename_i a
  simp only[yJ]at h
  exact⟨a.1,a.2.1,a.2.2.1,a.2.2.2,h.symm⟩
 .cases h
theorem xZ {α:Type}{a:Nat}{n:Int}{z:α}{xs:List α}(h:mkS a n z=some xs):mkC a n n z=some xs:=by
 unfold mkS at h
 unfold mkC
 simpa using h
def appS {α:Type}(a:Nat) (xs ys:List α):Option (List α):=if(xs.length+ys.length) * a<=140737488355328/\xs.length+ys.length<=9223372036854775807 then some (xs++ys) else none
theorem tf {α:Type}{a:Nat}{xs ys zs:List α}(h:appS a xs ys=some zs):(xs.length+ys.length) * a<=140737488355328/\xs.length+ys.length<=9223372036854775807/\zs=xs++ys:=by
 unfold appS at h
 split at h
 .rename_i b
  simp only[yJ]at h
  exact⟨b.1,b.2,h.symm⟩
 .cases h
def subS {α:Type}(xs:List α) (l h:Int):Option (List α):=if 0<=l/\l<=h/\h<=xs.length then some ((xs.take h.toNat).drop l.toNat) else none
theorem qN {α:Type}{xs ys:List α}{l h:Int}(e:subS xs l h=some ys):0<=l/\l<=h/\h<=xs.length/\ys=(xs.take h.toNat).drop l.toNat:=by
 unfold subS at e
 split at e
 .rename_i a
  simp only[yJ]at e
  exact⟨a.1,a.2.1,a.2.2,e.symm⟩
 .cases e
theorem oz {a:List Value}{k:Nat}(b:a.length=k) (g:0<k):∀m,(madeCells a.toArray (m * k)).toList=(zf m a).flatten:=by
 intro m
 apply yS
 intro j
 have e:(madeCells a.toArray (m * k)).toList[j]? =if j<m * k then some (a.toArray[j % a.toArray.size]!) else none:=by
  simp only[madeCells,Array.toList_map,Array.toList_range,yX,List.getElem?_range']
  split <;> simp_all
 rw[e]
 clear e
 induction m generalizing j with
 |zero=>simp
 |succ m f=>
  rw[List.replicate_succ,List.flatten_cons]
  by_cases d:j<k
  .rw[yT (by omega),if_pos (by rw[Nat.succ_mul];omega)]
   simp only[zg,b,Nat.mod_eq_of_lt d]
   rw[getElem!_pos a.toArray j (by simpa [b] using d)]
   simp[b,d]
  .have:=f (j-k)
   rw[yU (by omega),b,← this]
   simp only[zg,b]
   rw[show j % k=(j-k) % k from by rw[Nat.mod_eq_sub_mod (by omega)]]
   by_cases c:j<(m+1) * k
   .rw[if_pos c,if_pos (by rw[Nat.succ_mul]at c;omega)]
   .rw[if_neg c,if_neg (by rw[Nat.succ_mul]at c;omega)]
theorem pl {a:List Value}{k:Nat}(b:a.length=k) (d:0<k){m c:Nat}(h:m<=c):(madeCells a.toArray (c * k)).toList.take (m * k)=(zf m a).flatten:=by
 have f:zf c a=zf m a++zf (c-m) a:=by rw[List.replicate_append_replicate,show m+(c-m)=c from by omega]
 rw[oz b d,f,List.flatten_append,zh]
 have e:((zf m a).flatten).length=m * k:=by simp[b]
 rw[zi (by omega),e]
 simp
section
variable {P:Program}{n:Nat}{ops:Array Oper}{C:World->Prop}{N:Act->World->Prop}{r:List (Nat×Nat)}{L:Env}{J:Col}{w:World}{i d:Nat}{o:Oper}
theorem WO.mk {α:Type}{E:Ep α}(q:Nat) (M:ops[i]? =some o) (K:gd ops L o=some true) (I:o.dst=some d) (g:yC d n=true){t T:TypeId}{x y:Operand}{m c:Int}{l:Nat}{z:α}{f:Value}{j:List Value}{xs:List α}{e:TypeInfo}
 (O:o.op= .makeSlice t x y) (hx:opd L x=some (.int .i64 m)) (hy:opd L y=some (.int .i64 c)) (ht:P.underlying t=some (.slice T)) (hi:P.info? T=some e) (U:e.zero=some f) (hs:e.size=E.size) (H:e.bytes=l) (V:f.cells=j.toArray) (p:yC 0 E.size=true)
 (v:∀F S w,E.rel F S w j z) (R:mkC l m c z=some xs)
 (k:∀a c w' κ',Stp [] J w κ' w'->Oc E T κ' w' q a c xs->C w'/\WO P n ops C N r ((d,.slice a xs.length c)::L) w'):WO P n ops C N ((i,1)::r) L w:=
 WO.l M K I g λa ha=>by
  have p:=Nat.ble_eq.mp p
  obtain⟨A,B,D,W,G⟩:=xu R
  have Q:=run_make (P:=P) w t T e f ht hi U .i64 .i64 m c A B (by
   have h:((e.bytes * c.toNat:Nat):Int)<=281474976710656:=by rw[H];omega
   rw[Int.natCast_mul,Int.toNat_of_nonneg (by omega)]at h
   exact h) D
  unfold Runs
  have:(execOp a.eval o).run P w= .ok (.value (.slice (some ⟨w.heap.size,0,none⟩) m.toNat c.toNat)) (w.alloc (.cells (madeCells f.cells (c.toNat * e.size)) T)):=by
   simp only[execOp,O,ha.eval hx,ha.eval hy,Sem.run_bind,Q,Result.andThen_ok,Sem.run_pure]
  rw[this]
  subst G
  have u:=E.len (v (λ_=>True) (λ_=>True) w)
  have s:=k (some ⟨w.heap.size,0,none⟩) c.toNat _ _ (Stp.nw q (Ext.alloc w (.cells (madeCells f.cells (c.toNat * e.size)) T)))
   ⟨(zf m.toNat j).flatten,⟨by simp[u],.inr ⟨w.heap.size,0,_,rfl,heap_alloc_new w _,by simp;omega,by unfold maxLen;omega,by rw[size_madeCells,hs];omega,by
    rw[V,hs,yQ,yZ]
    exact pl u (by omega) (by omega)⟩⟩,λb g=>by
     have:b=w.heap.size:=by simpa [nb] using g
     subst this
     exact⟨by simp,by rw[mQ (yE _)];simp⟩,LstO.replicate (v _ _ _) _⟩
  rw[yZ]at s
  exact s
def rlc (J:Col) (l:List Nat) (n i:Nat):Col:=λb=>bif yC b n then(bif nin l (J b) then J b else i) else i
theorem ig {l:List Nat}{m i b:Nat}(h:J b∈l):rlc J l m i b=i:=by
 unfold rlc
 rw[kP.2 h]
 cases yC b m <;> rfl
theorem qr {l:List Nat}{m i b:Nat}(h:m<=b):rlc J l m i b=i:=by
 have:yC b m=false:=by
  cases e:yC b m with
  |false=>rfl
  |true=>have:=Nat.ble_eq.mp e;omega
 simp[rlc,this]
theorem qt {l:List Nat}{m i b:Nat}(h:J b∉l) (a:b<m):rlc J l m i b=J b:=by
 unfold rlc
 rw[cg.2 h]
 exact lS (Nat.ble_eq.mpr a)
theorem Stp.rl {w':World}(l:List Nat) (q:Nat) (e:Ext w w'):Stp l J w (rlc J l w.heap.size q) w':=⟨e.os,e.tape,e.output,e.size,λb a c=>⟨qt c a,e.block b a⟩⟩
theorem Stp.rlT {w':World}{m:Nat}(l:List Nat) (q:Nat) (e:Tch m w w') (d:∀b,b+1=m->J b∈l):Stp l J w (rlc J l w.heap.size q) w':=
 ⟨e.os,e.tape,e.output,e.size,λb a c=>⟨qt c a,e.block b ⟨a,λh=>c (d b h)⟩⟩⟩
theorem WO.blG {α:Type}{E:Ep α}(q:Nat) (l:List Nat) (Y:ops[i]? =some o) (V:gd ops L o=some true) (S:o.dst=some d) (f:yC d n=true){t T:TypeId}{len:Nat}{parts:List (Nat×Operand)}{vs:List Value}{cells:List Value}{s:Value}{g:TypeInfo}{xs:List α}
 (H:o.op= .buildSlice t len parts.toArray) (m:opds L (parts.map (·.2))=some vs) (ht:P.underlying t=some (.slice T)) (hi:P.info? T=some g) (ad:g.zero=some s) (hs:g.size=E.size) (M:yB (len * g.size) 16777216=true) (K:yC 0 (len * g.size)=true)
 (I:zk (parts.map (·.1)) vs=(vs.zipIdx 0).map λx=>(x.2,x.1)) (ab:vs.length=len) (R:(vs.flatMap λv=>v.cells.toList)=cells) (G:xs.length=len)
 (aa:(vs.all λv=>yA v.cells.size E.size)=true) (Q:nin l 0=true) (F:LstO E (Zl J w [0]) w (Zl J w l) cells xs)
 (k:∀a c w' κ',Stp l J w κ' w'->Gst q J w κ' w'->Oc E T κ' w' q a c xs->C w'/\WO P n ops C N r ((d,.slice a xs.length c)::L) w'):WO P n ops C N ((i,1)::r) L w:=
 WO.l Y V S f λj ha=>by
  have U:(parts.toArray.map λ(i,x)=>(i,j.eval x)).toList=zk (parts.map (·.1)) vs:=by
   have u:(parts.map (·.2)).map j.eval=vs:=by simpa using ha.evals m
   rw[← u]
   clear H m I u
   induction parts with
   |nil=>simp
   |cons p r ae=>simpa using ae
  have A:0<E.size:=by
   have z:=Nat.ble_eq.mp K
   rcases Nat.eq_zero_or_pos E.size with h|h
   .rw[hs,h]at z;simp at z
   .exact h
  have y:cells.length=len * E.size:=by rw[F.len,G]
  have ac:∀v∈vs,v.cells.size=E.size:=λv m=>Nat.eq_of_beq_eq_true (List.all_eq_true.1 aa v m)
  have D:=Great.fill_whole A vs ((Array.range (len * E.size)).map (s.cells[· % s.cells.size]!)) ac (by simp[ab])
  rw[← I,← hs,R]at D
  unfold Runs
  have Z:=run_buildSlice (P:=P) w t T len (parts.toArray.map λ(i,x)=>(i,j.eval x)) cells.toArray g s ht hi ad (by have:=Nat.ble_eq.mp M;omega) (by have:=Nat.ble_eq.mp K;omega) (by rw[U];exact D)
  have:(execOp j.eval o).run P w= .ok (.value (.slice (some ⟨w.heap.size,0,none⟩) len len)) (w.alloc (.cells cells.toArray T)):=by
   simp only[execOp,H,Sem.run_bind,Z,Result.andThen_ok,Sem.run_pure]
  rw[this]
  subst G
  have X:xs.length<=maxLen:=by
   have af:=Nat.ble_eq.mp M
   have:=Nat.le_mul_of_pos_right xs.length (hs ▸ A:0<g.size)
   unfold maxLen;omega
  have e:=Ext.alloc w (.cells cells.toArray T)
  have O:=Stp.rl (J:=J) l q e
  have W:Gst q J w (rlc J l w.heap.size q) (w.alloc (.cells cells.toArray T)):=⟨e.size,λb f=>e.block b f,λb f=>by
   by_cases B:J b∈l
   .exact .inr (ig B)
   .exact .inl (qt B f)⟩
  refine k _ _ _ _ O W ⟨cells,⟨y,.inr ⟨w.heap.size,0,_,rfl,heap_alloc_new w _,yE _,X,by simp[y],by rw[yQ];exact zi (by rw[y];exact yE _)⟩⟩,λb f=>?_,F.st (Zl.st O (nin1 Q)) λb f=>⟨⟨⟨Nat.lt_of_lt_of_le f.1 e.size,by rw[ig f.2];simp⟩,λh=>?_⟩,e.block b f.1⟩⟩
  .have:b=w.heap.size:=by simpa [nb] using f
   subst this
   exact⟨by simp,by rw[qr (yE _)];simp⟩
  .have u:b=w.heap.size:=by simpa [nb] using h
   have:=f.1
   omega
theorem WO.bl {α:Type}{E:Ep α}(q:Nat) (l:List Nat) (u:ops[i]? =some o) (m:gd ops L o=some true) (j:o.dst=some d) (f:yC d n=true){t T:TypeId}{len:Nat}{parts:List (Nat×Operand)}{vs:List Value}{cells:List Value}{K:Value}{b:TypeInfo}{xs:List α}
 (y:o.op= .buildSlice t len parts.toArray) (F:opds L (parts.map (·.2))=some vs) (ht:P.underlying t=some (.slice T)) (hi:P.info? T=some b) (H:b.zero=some K) (hs:b.size=E.size) (B:yB (len * b.size) 16777216=true) (A:yC 0 (len * b.size)=true)
 (z:zk (parts.map (·.1)) vs=(vs.zipIdx 0).map λx=>(x.2,x.1)) (G:vs.length=len) (g:(vs.flatMap λv=>v.cells.toList)=cells) (s:xs.length=len)
 (D:(vs.all λv=>yA v.cells.size E.size)=true) (e:nin l 0=true) (p:LstO E (Zl J w [0]) w (Zl J w l) cells xs)
 (k:∀a c w' κ',Stp l J w κ' w'->Oc E T κ' w' q a c xs->C w'/\WO P n ops C N r ((d,.slice a xs.length c)::L) w'):WO P n ops C N ((i,1)::r) L w:=
 WO.blG q l u m j f y F ht hi H hs B A z G g s D e p λa c w' κ' I _ h=>k a c w' κ' I h
theorem WO.bl0 {α:Type}{E:Ep α}(q:Nat) (m:ops[i]? =some o) (l:gd ops L o=some true) (j:o.dst=some d) (e:yC d n=true){t T:TypeId}{f:TypeInfo}
 (p:o.op= .buildSlice t 0 #[]) (ht:P.underlying t=some (.slice T)) (hi:P.info? T=some f) (hs:f.size=E.size)
 (k:∀a c w' κ',Stp [] J w κ' w'->Oc E T κ' w' q a c ([]:List α)->C w'/\WO P n ops C N r ((d,.slice a ([]:List α).length c)::L) w'):WO P n ops C N ((i,1)::r) L w:=
 WO.l m l j e λg ha=>by
  unfold Runs
  have:(execOp g.eval o).run P w= .ok (.value (.slice (some ⟨w.heap.size,0,none⟩) 0 0)) (w.alloc (.cells #[] T)):=by
   simp[execOp,p,Instr.buildSlice,run_underlying ht,sizeOf,typeInfo,hi,Instr.fill,newRow,Array.range_zero']
  rw[this]
  exact k _ _ _ _ (Stp.nw q (Ext.alloc _ _)) ⟨[],⟨by simp,.inr ⟨w.heap.size,0,_,rfl,heap_alloc_new w _,yE _,by simp,by simp,by simp⟩⟩,λb e=>by
   have:b=w.heap.size:=by simpa [nb] using e
   subst this
   exact⟨by simp,by rw[mQ (yE _)];simp⟩,rfl⟩
end
def SrcO {α:Type}(E:Ep α) (F S:Nat->Prop) (w:World) (a:Option Addr) (c:Nat) (xs:List α):Prop:=
 ∃d,LstO E F w S d xs/\(a=none->xs=[]/\c=0)/\∀b,a=some b->∀(j:Nat) u,d[j]? =some u->w.cell? (b.add j)=some u
theorem Ow.src {α:Type}{E:Ep α}{T:TypeId}{F S:Nat->Prop}{w:World}{a:Option Addr}{c:Nat}{xs:List α}(h:Ow E T F S w a c xs):SrcO E F S w a c xs:=by
 obtain⟨m,l,u,n⟩:=h
 refine⟨m,n.st (λb g=>⟨g,rfl⟩) (λb g=>⟨g.1,rfl⟩),λe=>?_,λt e j v f=>?_⟩
 .rcases l.2 with ⟨_,s,q⟩|⟨k,o,i,d,_⟩
  .exact⟨yR s,q⟩
  .rw[e]at d;cases d
 .rcases l.2 with ⟨d,_⟩|⟨k,o,i,d,r,_,_,_,p⟩
  .rw[d]at e;cases e
  .rw[d]at e
   obtain rfl:=Option.some.inj e
   rw[← p,yp]at f
   split at f
   .rw[addb,cell_of_row w k _ i T (0,0) r]
    rw[yW]at f
    simpa using f
   .cases f
theorem SrcO.no {α:Type}{E:Ep α}(f:E.No){F F' S:Nat->Prop}{w:World}{a:Option Addr}{c:Nat}{xs:List α}(h:SrcO E F S w a c xs):SrcO E F' S w a c xs:=by
 obtain⟨b,d,e⟩:=h
 exact⟨b,d.no f,e⟩
theorem oy {α:Type}{E:Rp α}{S:Nat->Prop}{w:World}{E':Ep α}{F:Nat->Prop}(f:∀cs x,E.rel S w cs x->E'.rel F (λ_=>False) w cs x) (s:E'.size=E.size) (d:Nat->Option Value):∀(xs:List α) (k:Nat),
 (∀(i:Nat) x,xs[i]? =some x->∃cs:List Value,(∀(j:Nat) v,cs[j]? =some v->d ((k+i) * E.size+j)=some v)/\E.rel S w cs x) ->
 ∃b,LstO E' F w (λ_=>False) b xs/\∀(j:Nat) a,b[j]? =some a->d (k * E.size+j)=some a
 | [],_,_=>⟨[],rfl,λj a h=>by simp at h⟩
 |x::r,k,h=>by
  obtain⟨cs,l,e⟩:=h 0 x rfl
  obtain⟨b,m,n⟩:=oy f s d r (k+1) λi y hy=>by
   obtain⟨g,o,p⟩:=h (i+1) y (by simpa using hy)
   exact⟨g,λj v t=>by rw[show k+1+i=k+(i+1) from by omega];exact o j v t,p⟩
  refine⟨cs++b,⟨cs,b,λ_=>False,λ_=>False,rfl,λ_ h=>h.elim,λ_ h=>h,f _ _ e,m⟩,λj a c=>?_⟩
  have u:=E.len e
  by_cases q:j<cs.length
  .rw[yT q]at c
   exact l j a c
  .rw[yU (by omega)]at c
   have:=n _ a c
   rw[show k * E.size+j=(k+1) * E.size+(j-cs.length) from by rw[yy];omega]
   exact this
theorem Sl.srcG {α:Type}{E:Rp α}{S:Nat->Prop}{w:World}{E':Ep α}{F:Nat->Prop}{a:Option Addr}{c:Nat}{xs:List α}(p:∀cs x,E.rel S w cs x->E'.rel F (λ_=>False) w cs x) (s:E'.size=E.size) (h:Sl E S w a c xs):SrcO E' F (λ_=>False) w a c xs:=by
 rcases h.2.2 with ⟨e,q⟩|⟨b,o,e,_,r⟩
 .subst e
  exact⟨[],rfl,λha=>⟨rfl,q ha⟩,λ_ _ j f d=>by simp at d⟩
 .obtain⟨g,k,l⟩:=oy p s (λj=>w.cell? ⟨b,o+j,none⟩) xs 0 λi x hx=>by
   obtain⟨cs,m,n⟩:=r i x hx
   exact⟨cs,λj v t=>by simpa [Nat.add_assoc] using m j v t,n⟩
  refine⟨g,k,λha=>(by rw[e]at ha;cases ha),λu ha j f d=>?_⟩
  rw[e]at ha
  obtain rfl:=Option.some.inj ha
  have:=l j f d
  rw[addb]
  simpa using this
theorem Sl.srcP {α:Type}{E:Ep α}(b:E.Pu){S F:Nat->Prop}{w:World}{a:Option Addr}{c:Nat}{xs:List α}(h:Sl E.rp S w a c xs):SrcO E F (λ_=>False) w a c xs:=h.srcG (λ_ _ h=>b h) E.rps.symm
theorem mU {P:Program}{w:World}(t ty e:TypeId) (i:TypeInfo) (ht:P.underlying t=some (.slice e)) (hi:P.info? e=some i) (a:Option Addr) (n c:Nat) (h:n<=c):
 (Builtin.append_ #[t,t] ty #[.slice a n c,.slice none 0 0]).run P w= .ok (.slice a n c) w:=by
 cases a with
 |none=>simp[Builtin.append_,run_underlying ht,sizeOf,typeInfo,hi,Builtin.lenOf,Builtin.firstCells,h]
 |some p=>simp[Builtin.append_,run_underlying ht,sizeOf,typeInfo,hi,Builtin.lenOf,Builtin.firstCells,h,storeCells]
theorem po {P:Program}(w:World) (t ty e:TypeId) (i:TypeInfo) (ht:P.underlying t=some (.slice e)) (hi:P.info? e=some i)
 (g o d l:Nat) (f:Array Value) (s:w.heap[g]? =some (.cells f e (0,0)))
 (a:Addr) (m c:Nat) (b:List Value) (u:b.length=m * i.size) (v:∀(j:Nat) k,b[j]? =some k->w.cell? (a.add j)=some k) (p:∀k∈b,k.oneCell'=true)
 (x:d+m<=l) (r:o+d * i.size+b.length<=f.size):
 (Builtin.append_ #[t,t] ty #[.slice (some ⟨g,o,none⟩) d l,.slice (some a) m c]).run P w=
  .ok (.slice (some ⟨g,o,none⟩) (d+m) l) (w.setRow g (f.toList.take (o+d * i.size)++b++f.toList.drop (o+d * i.size+b.length)).toArray):=by
 have q:=run_firstCells_some (P:=P) w i.size m a m c b u v
 have n:=run_storeCells_at P g (o+d * i.size) e b 0 f w s (by simpa using r) p
 simp only[Nat.add_zero]at n
 simp[Builtin.append_,run_underlying ht,sizeOf,typeInfo,hi,Builtin.lenOf,x,q,addb,n]
theorem wD {P:Program}{w:World}{t ty T:TypeId}{d:TypeInfo}{v:Value}{z G:Nat}(ht:P.underlying t=some (.slice T)) (hi:P.info? T=some d) (L:d.zero=some v) (hs:d.size=z) (O:d.bytes=G) (Z:v.cells.size=z)
 {a:Option Addr} {k c:Nat} {i:List Value} (r:OwR w T z a k c i) {ay:Option Addr} {m cy:Nat} {e:List Value} (n:e.length=m * z) (X:ay=none->m=0/\cy=0)
 (B:∀f,ay=some f->∀(j:Nat) p,e[j]? =some p->w.cell? (f.add j)=some p) (M:∀p∈e,p.oneCell'=true) (ad:k+m<=9223372036854775807) (s:(k+m) * G<=140737488355328):
 ∃A H w',(Builtin.append_ #[t,t] ty #[.slice a k c,.slice ay m cy]).run P w= .ok (.slice A (k+m) H) w'/\OwR w' T z A (k+m) H (i++e)/\Tch (nb a) w w'/\(nb A=nb a\/w.heap.size<nb A):=by
 subst hs O
 have S:k<=c:=by
  rcases r.2 with ⟨_,N,aa⟩|⟨l,o,q,_,_,N,_⟩ <;> omega
 have D:(i++e).length=(k+m) * d.size:=by rw[yq,r.1,n,yy]
 have V:k+m<=maxLen:=by unfold maxLen;omega
 have I:∀(g:Nat),g<k+m ->
  OwR (w.drew.alloc (.cells (i.toArray++e.toArray++Builtin.zeroCells v.cells (grownCap w (k+m) g T-(k+m))) T)) T d.size (some ⟨w.heap.size,0,none⟩) (k+m) (grownCap w (k+m) g T) (i++e) /\
  Tch (nb a) w (w.drew.alloc (.cells (i.toArray++e.toArray++Builtin.zeroCells v.cells (grownCap w (k+m) g T-(k+m))) T)):=by
  intro g ae
  have R:=grownCap_ge w (k+m) g T
  refine⟨⟨D,.inr ⟨w.heap.size,0,_,rfl,heap_alloc_new w.drew _,R,grownCap_le_maxLen w (k+m) g T V,?_,?_⟩⟩,⟨rfl,rfl,rfl,by simp,λb s=>heap_alloc_old w.drew _ s.1⟩⟩
  .simp only[Array.size_append,zg,size_zeroCells,Z,r.1,n,← yy]
   rw[show k+m+(grownCap w (k+m) g T-(k+m))=grownCap w (k+m) g T from by omega]
   omega
  .simp only[Array.toList_append,yM,yQ]
   rw[← yM,← D]
   exact List.take_left
 cases ay with
 |none=>
  obtain⟨rfl,rfl⟩:=X rfl
  have E:e=[]:=yR (by simpa using n)
  subst E
  exact⟨a,c,w,mU t ty T d ht hi a k c S,by simpa using r,Fr.refl _ _,.inl rfl⟩
 |some f=>
  rcases r.2 with ⟨rfl,rfl,rfl⟩|⟨l,o,q,rfl,C,_,Q,ac,K⟩
  .have hx:i=[]:=yR (by simpa using r.1)
   subst hx
   by_cases U:m=0
   .subst U
    have E:e=[]:=yR (by simpa using n)
    subst E
    refine⟨none,0,w,?_,⟨by simp,.inl ⟨rfl,rfl,rfl⟩⟩,Fr.refl _ _,.inl rfl⟩
    simp[Builtin.append_,run_underlying ht,sizeOf,typeInfo,hi,Builtin.lenOf,Builtin.firstCells,loadCells,loadCellsFrom]
   .have x:=run_append_nil (P:=P) w t ty T d v ht hi L f m cy e n (B f rfl) (by omega) (by omega) (by have s:=s;simp only[Nat.zero_add]at s;omega)
    have u:=I 0 (by omega)
    simp only[Nat.zero_add,List.nil_append,Array.empty_append]at u ⊢
    exact⟨_,_,_,x,u.1,u.2,.inr (by simp[nb])⟩
  .by_cases F:k+m<=c
   .have W:(k+m) * d.size<=c * d.size:=zl _ F
    rw[yy]at W
    have x:=po (P:=P) w t ty T d ht hi l o k c q C f m cy e n (B f rfl) M F (by omega)
    refine⟨_,_,_,x,⟨D,.inr ⟨l,o,_,rfl,setRow_heap w l q _ T _ C,F,Q,?_,?_⟩⟩,Tch.setRow w l _,.inl rfl⟩
    .simp only[zg,yq,y8,yY,yK]
     omega
    .rw[← K]
     have ab:q.toList.length=q.size:=by simp
     generalize q.toList=cl at *
     simp only[]
     rw[yM,yN,yP,y8,show o-min (o+k * d.size) cl.length=0 from by omega,yQ,show o+k * d.size-o=k * d.size from by omega,← yM]
     refine List.take_left' ?_
     simp only[yq,y8,yY,n,yy]
     omega
   .have Y:∀(j:Nat) p,i[j]? =some p->w.cell? ((⟨l,o,none⟩:Addr).add j)=some p:=λj p y=>by
     rw[← K,yp]at y
     split at y
     .rw[addb,cell_of_row w l _ q T (0,0) C]
      rw[yW]at y
      simpa using y
     .cases y
    have x:=run_append_grow (P:=P) w t ty T d v ht hi L ⟨l,o,none⟩ k c i r.1 Y f m cy e n (B f rfl) (by omega) (by omega) (growslice_fits (by omega) s)
    have u:=I c (by omega)
    exact⟨_,_,_,x,u.1,u.2,.inr (by simp[nb])⟩
section
variable {P:Program}{n:Nat}{ops:Array Oper}{C:World->Prop}{N:Act->World->Prop}{r:List (Nat×Nat)}{L:Env}{J:Col}{w:World}{i d:Nat}{o:Oper}
theorem WO.app {α:Type}{E:Ep α}(q:Nat) (l:List Nat) (aq:ops[i]? =some o) (ak:gd ops L o=some true) (ai:o.dst=some d) (f:yC d n=true){t T:TypeId}{x y:Operand}{D:Nat}{X:Value}{u:TypeInfo}
 {a ay:Option Addr} {c cy U V:Nat} {xs ys zs:List α} {Sy:Nat->Prop} (ar:o.op= .call { callee:= .builtin .append,args:= #[x,y],argTypes:= #[t,t] }) (hx:opd L x=some (.slice a U c)) (an:U=xs.length) (hy:opd L y=some (.slice ay V cy)) (ao:V=ys.length)
 (ht:P.underlying t=some (.slice T)) (al:P.info? T=some u) (az:u.zero=some X) (hs:u.size=E.size) (ag:u.bytes=D) (aA:X.cells.size=E.size)
 (au:Oc E T J w q a c xs) (ax:SrcO E (Zl J w [0]) Sy w ay cy ys) (p:∀b,Sy b->Zl J w l b/\J b≠q) (ad:appS D xs ys=some zs) (Z:nin (q::l) 0=true)
 (k:∀g m w' κ',Stp (q::l) J w κ' w'->Oc E T κ' w' q g m zs->C w'/\WO P n ops C N r ((d,.slice g zs.length m)::L) w'):WO P n ops C N ((i,1)::r) L w:=
 WO.l aq ak ai f λY ha=>by
  obtain⟨F,av,v,am⟩:=au
  obtain⟨ae,af,S⟩:=tf ad
  obtain⟨W,A,ap,ah⟩:=ax
  subst an ao
  obtain⟨g,m,w',aw,Q,B,M⟩:=wD (P:=P) (ty:=o.type) ht al az hs ag aA av (ay:=ay) (cy:=cy) A.len (λe=>by obtain⟨j,aa⟩:=ap e;exact⟨by rw[j];rfl,aa⟩) ah A.one af ae
  unfold Runs
  have aj:(execOp Y.eval o).run P w= .ok (.value (.slice g (xs.length+ys.length) m)) w':=by
   simp[execOp,ar,ha.eval hx,ha.eval hy,resolve,invoke,builtin,aw]
  rw[aj]
  have I:zs.length=xs.length+ys.length:=by rw[S,yq]
  have R:Stp (q::l) J w (rlc J (q::l) w.heap.size q) w':=Stp.rlT _ _ B λb f=>by
   have:=(v b f).2
   simp only[List.mem_cons,List.not_mem_nil,or_false]at this
   rw[this];simp
  have H:=k g m w' _ R ⟨F++W,by rw[I];exact Q,λb f=>?_,?_⟩
  .rw[I]at H;exact H
  .refine⟨Q.lt f,?_⟩
   rcases M with e|e
   .have j:=(v b (by rw[← e];exact f)).2
    simp only[List.mem_cons,List.not_mem_nil,or_false]at j
    rw[ig (by rw[j];simp)];simp
   .rw[qr (by omega)];simp
  .rw[S]
   have s:∀b,Zl J w (q::l) b->b+1≠nb a->(Zl (rlc J (q::l) w.heap.size q) w' [q] b/\b+1≠nb g)/\w'.heap[b]? =w.heap[b]?:=λb f K=>by
    have j:=B.block b ⟨f.1,K⟩
    refine⟨⟨⟨Nat.lt_of_lt_of_le f.1 B.size,by rw[ig f.2];simp⟩,λh=>?_⟩,j⟩
    rcases M with e|e
    .exact K (by rw[← e];exact h)
    .have:=f.1;omega
   have G:=Zl.st R (nin1 Z)
   have ab:LstO E (Zl (rlc J (q::l) w.heap.size q) w' [0]) w' (λb=>Zl J w [q] b/\b+1≠nb a) F xs:=am.st G λb f=>⟨f,(s b (Zl.mono (by simp) f.1) f.2).2⟩
   have O:∀b,b+1=nb a->J b=q:=λb f=>by simpa using (v b f).2
   have ac:LstO E (Zl (rlc J (q::l) w.heap.size q) w' [0]) w' Sy W ys:=A.st G λb f=>⟨f,(s b (Zl.mono (λc z=>zd _ z) (p b f).1) λh=>(p b f).2 (O b h)).2⟩
   refine LstO.append ac (λb f=>⟨(s b (Zl.mono (by simp) f.1) f.2).1,λh=>(p b h).2 ?_⟩) (λb f=>(s b (Zl.mono (λc z=>zd _ z) (p b f).1) λh=>(p b f).2 (O b h)).1) ab
   simpa using f.1.2
theorem aV {p:Nat->Prop}:∀b:Nat,(λ_=>False) b->p b:=λ_ h=>h.elim
theorem lJ {j q:Nat}(h:yA j q=false):∀b,Zl J w [j] b->Zl J w [j] b/\J b≠q:=λb a=>⟨a,λe=>by
 have c:J b=j:=by simpa using a.2
 rw[← c,e,Nat.beq_refl]at h;cases h⟩
theorem kv {t:TypeId}{g off:Nat}{T:TypeId}{a:Array Value}{v:Value}{cs:List Value}{k:Nat}(e:w.heap[g]? =some (.cells a T (0,0))) (i:∀w,(sizeOf t).run P w= .ok k w) (d:v.cells=cs.toArray) (f:cs.length=k)
 (c:∀j∈cs,j.oneCell'=true) (l:off+k<=a.size):(Instr.storeAt t (.pointer (some ⟨g,off,none⟩)) v).run P w= .ok () (w.setRow g (a.toList.take off++cs++a.toList.drop (off+k)).toArray):=by
 subst f
 have b:=run_storeCells_at P g off T cs 0 a w e (by omega) c
 simp only[Nat.add_zero]at b
 simp[Instr.storeAt,Instr.sureAddr,storeVar,i,d,b]
theorem WO.stI {α:Type}{E:Ep α}(q:Nat) (l:List Nat) (aj:ops[i]? =some o) (af:gd ops L o=some true) (ae:o.dst=none){t T:TypeId}{x y:Operand}{a:Option Addr}{c j V:Nat}{xs zs:List α}{v:Value}{cs:List Value}{e:α}{ix:Int}
 (ak:o.op= .store t x y) (hx:opd L x=some (.pointer (some (aAt a j)))) (ag:j=ix.toNat * E.size) (hy:opd L y=some v) (ad:v.cells=cs.toArray) (ap:∀w,(sizeOf t).run P w= .ok V w) (an:V=E.size) (m:E.rel (Zl J w [0]) (Zl J w l) w cs e) (Q:nin l q=true) (X:nin (q::l) 0=true)
 (al:Oc E T J w q a c xs) (S:setI xs ix e=some zs)
 (k:∀w' κ',Stp (q::l) J w κ' w'->Oc E T κ' w' q a c zs->C w'/\WO P n ops C N r L w'):WO P n ops C N ((i,1)::r) L w:=
 WO.ln aj af ae λW ha=>by
  subst ag an
  obtain⟨ay,az,U,aq⟩:=mB S
  obtain⟨F,B,aa,O⟩:=al
  rcases B.2 with ⟨rfl,ar,rfl⟩|⟨f,of,g,rfl,K,ah,ac,au,ao⟩
  .omega
  .have M:ix.toNat<xs.length:=by omega
   have aw:ix.toNat * E.size+E.size<=xs.length * E.size:=by
    have:=zl E.size (show ix.toNat+1<=xs.length from M)
    rwa [yy,Nat.one_mul]at this
   have ax:xs.length * E.size<=c * E.size:=zl _ ah
   have H:aAt (some ⟨f,of,none⟩) (ix.toNat * E.size)=⟨f,of+ix.toNat * E.size,none⟩:=addb _ _ _
   have R:=kv (P:=P) (t:=t) (off:=of+ix.toNat * E.size) K ap ad (E.len m) (E.one m) (by omega)
   unfold Runs
   have:(execOp W.eval o).run P w= .ok .skip (w.setRow f (g.toList.take (of+ix.toNat * E.size)++cs++g.toList.drop (of+ix.toNat * E.size+E.size)).toArray):=by
    simp only[execOp,ak,ha.eval hx,ha.eval hy,H,Sem.run_bind,R,Result.andThen_ok,Sem.run_pure]
   rw[this]
   have A:J f=q:=by simpa using (aa f rfl).2
   have ht:Tch (f+1) w (w.setRow f (g.toList.take (of+ix.toNat * E.size)++cs++g.toList.drop (of+ix.toNat * E.size+E.size)).toArray):=Tch.setRow w f _
   have D:Stp (q::l) J w (rlc J (q::l) w.heap.size q) (w.setRow f (g.toList.take (of+ix.toNat * E.size)++cs++g.toList.drop (of+ix.toNat * E.size+E.size)).toArray):=Stp.rlT _ _ ht λb d=>by
    have:b=f:=by omega
    rw[this,A];simp
   refine k _ _ D ⟨F.take (ix.toNat * E.size)++cs++F.drop (ix.toNat * E.size+E.size),?_,λb d=>?_,?_⟩
   .have ab:=B.1
    have u:=E.len m
    rw[aq]
    clear S U R this D ht k hx H O
    generalize ix.toNat * E.size=p at *
    refine⟨?_,.inr ⟨f,of,_,rfl,setRow_heap w f g _ T _ K,by omega,ac,?_,?_⟩⟩
    .simp only[yq,y8,yY,ab,u];omega
    .simp only[zg,yq,y8,yY,yK,u];omega
    .rw[← ao]
     generalize xs.length * E.size=z at *
     have av:g.toList.length=g.size:=by simp
     generalize g.toList=cl at *
     simp only[]
     rw[yM,yN,yP,y8,show of-min (of+p) cl.length=0 from by omega,yQ,show of+p-of=p from by omega,zh,y8,zj,yY,
      show min z p=p from by omega,show min p (cl.length-of)=p from by omega,zh,zi (l:=cs) (by omega),List.take_drop,yM,u,yP,show of+p-of=p from by omega,zj,show min p z=p from by omega,yP,yO,show of+(p+E.size)=of+p+E.size from by omega,show z-(p+E.size)=z-p-E.size from by omega]
   .have:b=f:=by simpa [nb] using d
    subst this
    exact⟨by simpa using B.lt rfl,by rw[ig (by rw[A];simp)];simp⟩
   .rw[U]
    have G:=Zl.st D (nin1 X)
    have I:∀b,J b∈l->b≠f:=λb d e=>by rw[e,A]at d;exact cg.1 Q d
    have am:E.rel (Zl (rlc J (q::l) w.heap.size q) (w.setRow f (g.toList.take (of+ix.toNat * E.size)++cs++g.toList.drop (of+ix.toNat * E.size+E.size)).toArray) [0]) (Zl J w l) (w.setRow f (g.toList.take (of+ix.toNat * E.size)++cs++g.toList.drop (of+ix.toNat * E.size+E.size)).toArray) cs e:=
     E.st G (λb d=>⟨d,ht.block b ⟨d.1,by have:=I b d.2;omega⟩⟩) m
    have ai:=O.st (S':=λb=>Zl J w [q] b/\b+1≠nb (some ⟨f,of,none⟩)) G λb d=>⟨d,ht.block b ⟨d.1.1,d.2⟩⟩
    have Y:∀b,(Zl J w [q] b/\b+1≠nb (some ⟨f,of,none⟩))->rlc J (q::l) w.heap.size q b∈[q]:=λb d=>by
     have s:J b=q:=by simpa using d.1.2
     rw[ig (by rw[s];simp)];simp
    have Z:∀b,Zl J w l b->rlc J (q::l) w.heap.size q b∈[q]:=λb d=>by
     rw[ig (zd _ d.2)];simp
    refine LstO.set am (λb d=>⟨⟨⟨by simpa using d.1.1,Y b d⟩,d.2⟩,λh=>?_⟩) (λb d=>⟨⟨by simpa using d.1,Z b d⟩,?_⟩) ai _ M
    .have s:J b=q:=by simpa using d.1.2
     exact cg.1 Q (s ▸ h.2)
    .have:=I b d.2
     simp only[nb];omega
theorem WO.stB (q:Nat) (B:ops[i]? =some o) (d:gd ops L o=some true) (u:o.dst=none){t T:TypeId}{x y:Operand}{b off a:Nat}{v:Value}{cs vc cs':List Value}
 (D:o.op= .store t x y) (hx:opd L x=some (.pointer (some ((⟨b,0,none⟩:Addr).add off)))) (hy:opd L y=some v) (G:v.cells=vc.toArray) (H:∀w,(sizeOf t).run P w= .ok a w) (A:vc.length=a) (m:(vc.all λf=>f.oneCell')=true)
 (c:Bc J w q b T cs) (z:yB (off+a) cs.length=true) (s:cs.take off++vc++cs.drop (off+a)=cs')
 (k:∀w',Stp [q] J w J w'->Bc J w' q b T cs'->C w'/\WO P n ops C N r L w'):WO P n ops C N ((i,1)::r) L w:=
 WO.ln B d u λj ha=>by
  have p:(⟨b,0,none⟩:Addr).add off=⟨b,off,none⟩:=by rw[addb,Nat.zero_add]
  have g:w.heap[b]? =some (.cells cs.toArray T (0,0)):=c.bx
  have E:=kv (P:=P) (t:=t) (off:=off) g H G A (λf F=>List.all_eq_true.1 m f F) (by simpa using Nat.ble_eq.mp z)
  unfold Runs
  have:(execOp j.eval o).run P w= .ok .skip (w.setRow b cs'.toArray):=by
   simp only[execOp,D,ha.eval hx,ha.eval hy,p,Sem.run_bind,E,Result.andThen_ok,Sem.run_pure,s]
  rw[this]
  exact k _ ⟨rfl,rfl,rfl,by simp,λl _ d=>⟨rfl,setRow_other w b l _ λe=>d (by rw[e,c.col];simp)⟩⟩ ⟨setRow_heap w b _ _ T _ g,c.col⟩
theorem WO.stB0 (q:Nat) (l:ops[i]? =some o) (g:gd ops L o=some true) (e:o.dst=none){t T:TypeId}{x y:Operand}{b a:Nat}{v:Value}{cs vc:List Value}
 (m:o.op= .store t x y) (hx:opd L x=some (.pointer (some ⟨b,0,none⟩))) (hy:opd L y=some v) (p:v.cells=vc.toArray) (s:∀w,(sizeOf t).run P w= .ok a w) (j:vc.length=a) (c:(vc.all λu=>u.oneCell')=true)
 (d:Bc J w q b T cs) (f:cs.length=a)
 (k:∀w',Stp [q] J w J w'->Bc J w' q b T vc->C w'/\WO P n ops C N r L w'):WO P n ops C N ((i,1)::r) L w:=
 WO.stB q (off:=0) l g e m (by rw[addb];exact hx) hy p s j c d (Nat.ble_eq.mpr (by omega)) (by simp[f]) k
end
def LstH {α:Type}(E:Ep α) (F:Nat->Prop) (w:World) (cs:List Value):Nat->(Nat->Prop)->List Value->List α->Prop
 |_,_,_,[]=>False
 |0,S,cells,_::r=>∃a,cells=cs++a/\cs.length=E.size/\LstO E F w S a r
 |n+1,S,cells,x::r=>∃e a,∃d c:Nat->Prop,cells=e++a/\(∀b,d b->S b/\¬c b)/\(∀b,c b->S b)/\E.rel F d w e x/\LstH E F w cs n c a r
section
variable {α:Type}{E:Ep α}{F F':Nat->Prop}{w w':World}{cs:List Value}
theorem LstH.st (c:∀b,F b->F' b/\w'.heap[b]? =w.heap[b]?):∀{n:Nat}{xs:List α}{S S':Nat->Prop}{cells:List Value},(∀b,S b->S' b/\w'.heap[b]? =w.heap[b]?)->LstH E F w cs n S cells xs->LstH E F' w' cs n S' cells xs
 |_,[],_,_,_,_,h=>by cases ‹Nat› <;> exact h.elim
 |0,_::_,S,S',_,hS,⟨c2,e,h0,h⟩=>⟨c2,e,h0,h.st c hS⟩
 |n+1,_::_,S,S',_,hS,⟨c1,c2,S1,S2,e,s1,s2,h1,h2⟩=>⟨c1,c2,S1,S2,e,λb a=>⟨(hS b (s1 b a).1).1,(s1 b a).2⟩,λb a=>(hS b (s2 b a)).1,
  E.st c (λb a=>⟨a,(hS b (s1 b a).1).2⟩) h1,LstH.st c (λb a=>⟨a,(hS b (s2 b a)).2⟩) h2⟩
theorem LstO.take1:∀{n:Nat}{xs:List α}{S:Nat->Prop}{cells:List Value}{x:α},LstO E F w S cells xs->xs[n]? =some x ->
 ∃cs,∃c Sx:Nat->Prop,LstH E F w cs n c cells xs/\E.rel F Sx w cs x/\(∀b,c b->S b/\¬Sx b)/\(∀b,Sx b->S b)
 |n,[],_,_,_,_,h=>by simp at h
 |0,y::r,S,_,x,⟨c1,c2,S1,S2,e,s1,s2,h1,h2⟩,h=>by
  simp only[yV,yJ]at h
  subst h
  exact⟨c1,S2,S1,⟨c2,e,E.len h1,h2⟩,h1,λb a=>⟨s2 b a,λh=>(s1 b h).2 a⟩,λb a=>(s1 b a).1⟩
 |n+1,y::r,S,_,x,⟨c1,c2,S1,S2,e,s1,s2,h1,h2⟩,h=>by
  obtain⟨cs,c,Sx,g,i,d,f⟩:=h2.take1 (n:=n) (by simpa using h)
  refine⟨cs,λb=>S1 b\/c b,Sx,⟨c1,c2,S1,c,e,λb a=>⟨.inl a,λh=>(s1 b a).2 (d b h).1⟩,λb a=> .inr a,h1,g⟩,i,λb a=>?_,λb a=>s2 b (f b a)⟩
  rcases a with a|a
  .exact⟨(s1 b a).1,λh=>(s1 b a).2 (f b h)⟩
  .exact⟨s2 b (d b a).1,(d b a).2⟩
theorem LstH.put {y:α}{Sy:Nat->Prop}{cs':List Value}(hy:E.rel F Sy w cs' y):∀{n:Nat}{xs:List α}{S S':Nat->Prop}{cells:List Value},LstH E F w cs n S cells xs->(∀b,S b->S' b/\¬Sy b)->(∀b,Sy b->S' b) ->
 LstO E F w S' (cells.take (n * E.size)++cs'++cells.drop (n * E.size+E.size)) (xs.set n y)
 |_,[],_,_,_,h,_,_=>by cases ‹Nat› <;> exact h.elim
 |0,x::r,S,S',_,⟨c2,e,h0,h⟩,hs,hsy=>by
  refine⟨cs',c2,Sy,S,?_,λb a=>⟨hsy b a,λh=>(hs b h).2 a⟩,λb a=>(hs b a).1,hy,h⟩
  rw[e]
  simp[← h0]
 |n+1,x::r,S,S',_,⟨c1,c2,S1,S2,e,s1,s2,h1,h2⟩,hs,hsy=>by
  have c:=E.len h1
  refine⟨c1,_,S1,λb=>S2 b\/Sy b,?_,λb a=>⟨(hs b (s1 b a).1).1,λh=>h.elim (s1 b a).2 (hs b (s1 b a).1).2⟩,λb a=>a.elim (λh=>(hs b (s2 b h)).1) (hsy b),h1,
   LstH.put hy h2 (λb a=>⟨.inl a,(hs b (s2 b a)).2⟩) (λb a=> .inr a)⟩
  rw[e,show(n+1) * E.size=c1.length+n * E.size from by rw[c,yy];omega,zh,zi (by omega),show c1.length+n * E.size-c1.length=n * E.size from by omega,
   show c1.length+n * E.size+E.size=c1.length+(n * E.size+E.size) from by omega,yN,List.drop_of_length_le (l:=c1) (by omega)]
  simp[yM]
theorem LstH.cs_at:∀{n:Nat}{xs:List α}{S:Nat->Prop}{cells:List Value},LstH E F w cs n S cells xs->cs.length=E.size/\n<xs.length/\cells.take (n * E.size)++cs++cells.drop (n * E.size+E.size)=cells
 |_,[],_,_,h=>by cases ‹Nat› <;> exact h.elim
 |0,x::r,S,_,⟨c2,e,h0,h⟩=>by
  refine⟨h0,by simp,?_⟩
  rw[e];simp[← h0]
 |n+1,x::r,S,_,⟨c1,c2,S1,S2,e,s1,s2,h1,h2⟩=>by
  have a:=E.len h1
  obtain⟨b,c,d⟩:=h2.cs_at
  refine⟨b,by simpa using c,?_⟩
  rw[e,show(n+1) * E.size=c1.length+n * E.size from by rw[a,yy];omega,zh,zi (l:=c1) (by omega),show c1.length+n * E.size-c1.length=n * E.size from by omega,
   show c1.length+n * E.size+E.size=c1.length+(n * E.size+E.size) from by omega,yN,List.drop_of_length_le (l:=c1) (by omega)]
  simp only[List.nil_append,yM,show c1.length+(n * E.size+E.size)-c1.length=n * E.size+E.size from by omega]
  congr 1
  rw[← yM];exact d
end
def Hole {α:Type}(E:Ep α) (T:TypeId) (J:Col) (w:World) (i:Nat) (a:Option Addr) (c:Nat) (xs:List α) (ix:Int) (cs:List Value):Prop:=
 0<=ix/\∃d,OwR w T E.size a xs.length c d/\(∀b,b+1=nb a->Zl J w [i] b)/\LstH E (Zl J w [0]) w cs ix.toNat (λb=>Zl J w [i] b/\b+1≠nb a) d xs
section
variable {α:Type}{E:Ep α}{T:TypeId}{X:List Nat}{J κ':Col}{w w':World}{i j:Nat}{a:Option Addr}{c:Nat}{xs:List α}{ix:Int}{cs:List Value}
theorem Hole.stp (h:Hole E T J w i a c xs ix cs) (s:Stp X J w κ' w') (j:nin X 0=true:=by exact rfl) (n:nin X i=true:=by exact rfl):Hole E T κ' w' i a c xs ix cs:=by
 obtain⟨k,g,l,f,m⟩:=h
 have e:=Zl.st s (nin1 n)
 exact⟨k,g,l.same λb d=>(e b (f b d)).2,λb d=>(e b (f b d)).1,m.st (Zl.st s (nin1 j)) λb d=>⟨⟨(e b d.1).1,d.2⟩,(e b d.1).2⟩⟩
theorem Stp.ag {l:List Nat}(s:Stp X J w κ' w') (h:apt l X=true):Ag l J w w':=λb a=>(s.keep b a.1 (pT h _ a.2)).2
theorem Ag.refl (l:List Nat) (J:Col) (w:World):Ag l J w w:=λ_ _=>rfl
theorem Ow.borrowE {x:α}(h:Oc E T J w i a c xs) (hx:idx xs ix=some x) (j:Nat) (z:yA i j=false) (r:yA 0 i=false):
 ∃κ' cs,Stp [i] J w κ' w/\E.rel (Zl κ' w [0]) (Zl κ' w [j]) w cs x/\Hole E T κ' w i a c xs ix cs/\∀(k:Nat) v,cs[k]? =some v->w.cell? ((aAt a (ix.toNat * E.size)).add k)=some v:=by
 classical
 obtain⟨n,p,C,D⟩:=h
 obtain⟨L,Y,M⟩:=ko hx
 obtain⟨cs,P,Sx,s,F,t,m⟩:=D.take1 M
 have S:i≠j:=λe=>by rw[e,Nat.beq_refl]at z;cases z
 have Q:(0:Nat)≠i:=λe=>by rw[← e]at r;cases r
 let κ':Col:=λb=>if Sx b then j else J b
 have K:∀b,Sx b->κ' b=j:=λb d=>if_pos d
 have l:∀b,¬Sx b->κ' b=J b:=λb d=>if_neg d
 have u:∀b,Zl J w [0] b->Zl κ' w [0] b/\w.heap[b]? =w.heap[b]?:=λb d=>by
  have R:J b=0:=by simpa using d.2
  have:¬Sx b:=λh=>by
   have f:J b=i:=by simpa using (m b h).1.2
   omega
  exact⟨⟨d.1,by rw[l b this];exact d.2⟩,rfl⟩
 refine⟨κ',cs,⟨rfl,rfl,rfl,yE _,λb _ y=>⟨l b λh=>y (m b h).1.2,rfl⟩⟩,E.st u (λb d=>⟨⟨(m b d).1.1,by rw[K b d];simp⟩,rfl⟩) F,⟨L,n,p,λb d=>?_,s.st u λb d=>?_⟩,?_⟩
 .have f:=C b d
  have:¬Sx b:=λh=>(m b h).2 d
  exact⟨f.1,by rw[l b this];exact f.2⟩
 .have f:=(t b d).1
  exact⟨⟨⟨f.1.1,by rw[l b (t b d).2];exact f.1.2⟩,f.2⟩,rfl⟩
 .intro k v A
  obtain⟨Z,N,O⟩:=s.cs_at
  rcases p.2 with ⟨_,l,_⟩|⟨q,o,B,rfl,G,W,y,X,I⟩
  .omega
  .show w.cell? (((⟨q,o,none⟩:Addr).add _).add k)=some v
   rw[addb,addb,cell_of_row w q _ B T (0,0) G]
   have U:=(yo.1 A).1
   have V:ix.toNat * E.size+E.size<=xs.length * E.size:=by
    have:=zl E.size (show ix.toNat+1<=xs.length from N)
    rwa [yy,Nat.one_mul]at this
   have g:n[ix.toNat * E.size+k]? =some v:=by
    have H:(n.take (ix.toNat * E.size)).length=ix.toNat * E.size:=by rw[y8,p.1];omega
    rw[← O,yM,yU (by omega),H,yT (by omega),show ix.toNat * E.size+k-ix.toNat * E.size=k from by omega]
    exact A
   rw[← I,yp]at g
   split at g
   .rw[yW]at g
    simpa [Nat.add_assoc] using g
   .cases g
theorem Ow.borrow {α:Type}{E:Ep α}{Te:TypeId}{xs:List (List α)}{x:List α}{a':Option Addr}{d:Nat}(h:Oc (Ep.own E Te) T J w i a c xs) (hx:idx xs ix=some x) (o:w.cell? (aAt a (ix.toNat * 1))=some (.slice a' x.length d)) (j:Nat) (p:yA i j=false) (g:yA 0 i=false):
 ∃κ',Stp [i] J w κ' w/\Oc E Te κ' w j a' d x/\Hole (Ep.own E Te) T κ' w i a c xs ix [.slice a' x.length d]:=by
 obtain⟨κ',cs,k,⟨q,r,e,l⟩,m,n⟩:=h.borrowE hx j p g
 subst e
 have b:=n 0 _ rfl
 have hs:(Ep.own E Te).size=1:=rfl
 rw[hs]at b
 have f:(aAt a (ix.toNat * 1)).add 0=aAt a (ix.toNat * 1):=by
  unfold Addr.add;split <;> simp_all
 rw[f,o]at b
 simp only[yJ,Value.slice.injEq,true_and]at b
 obtain⟨rfl,rfl⟩:=b
 exact⟨κ',k,l,m⟩
end
section
variable {P:Program}{n:Nat}{ops:Array Oper}{C:World->Prop}{N:Act->World->Prop}{r:List (Nat×Nat)}{L:Env}{J:Col}{w:World}{i d:Nat}{o:Oper}
theorem WO.stH {α:Type}{E:Ep α}(q:Nat) (l:List Nat) (ak:ops[i]? =some o) (af:gd ops L o=some true) (ae:o.dst=none){t T:TypeId}{x y:Operand}{a:Option Addr}{c j U:Nat}{xs zs:List α}{v:Value}{cs W:List Value}{e:α}{ix:Int}
 (al:o.op= .store t x y) (hx:opd L x=some (.pointer (some (aAt a j)))) (ah:j=ix.toNat * E.size) (hy:opd L y=some v) (ad:v.cells=cs.toArray) (aq:∀w,(sizeOf t).run P w= .ok U w) (ao:U=E.size) (m:E.rel (Zl J w [0]) (Zl J w l) w cs e) (O:nin l q=true) (X:nin (q::l) 0=true)
 (am:Hole E T J w q a c xs ix W) (R:setI xs ix e=some zs)
 (k:∀w' κ',Stp (q::l) J w κ' w'->Oc E T κ' w' q a c zs->C w'/\WO P n ops C N r L w'):WO P n ops C N ((i,1)::r) L w:=
 WO.ln ak af ae λV ha=>by
  subst ah ao
  obtain⟨az,aA,S,ar⟩:=mB R
  obtain⟨_,F,B,aa,M⟩:=am
  rcases B.2 with ⟨rfl,au,rfl⟩|⟨f,of,g,rfl,K,ai,ac,av,ap⟩
  .omega
  .have ag:ix.toNat<xs.length:=by omega
   have ax:ix.toNat * E.size+E.size<=xs.length * E.size:=by
    have:=zl E.size (show ix.toNat+1<=xs.length from ag)
    rwa [yy,Nat.one_mul]at this
   have ay:xs.length * E.size<=c * E.size:=zl _ ai
   have H:aAt (some ⟨f,of,none⟩) (ix.toNat * E.size)=⟨f,of+ix.toNat * E.size,none⟩:=addb _ _ _
   have Q:=kv (P:=P) (t:=t) (off:=of+ix.toNat * E.size) K aq ad (E.len m) (E.one m) (by omega)
   unfold Runs
   have:(execOp V.eval o).run P w= .ok .skip (w.setRow f (g.toList.take (of+ix.toNat * E.size)++cs++g.toList.drop (of+ix.toNat * E.size+E.size)).toArray):=by
    simp only[execOp,al,ha.eval hx,ha.eval hy,H,Sem.run_bind,Q,Result.andThen_ok,Sem.run_pure]
   rw[this]
   have A:J f=q:=by simpa using (aa f rfl).2
   have ht:Tch (f+1) w (w.setRow f (g.toList.take (of+ix.toNat * E.size)++cs++g.toList.drop (of+ix.toNat * E.size+E.size)).toArray):=Tch.setRow w f _
   have D:Stp (q::l) J w (rlc J (q::l) w.heap.size q) (w.setRow f (g.toList.take (of+ix.toNat * E.size)++cs++g.toList.drop (of+ix.toNat * E.size+E.size)).toArray):=Stp.rlT _ _ ht λb d=>by
    have:b=f:=by omega
    rw[this,A];simp
   refine k _ _ D ⟨F.take (ix.toNat * E.size)++cs++F.drop (ix.toNat * E.size+E.size),?_,λb d=>?_,?_⟩
   .have ab:=B.1
    have u:=E.len m
    rw[ar]
    clear R S Q this D ht k hx H M
    generalize ix.toNat * E.size=p at *
    refine⟨?_,.inr ⟨f,of,_,rfl,setRow_heap w f g _ T _ K,by omega,ac,?_,?_⟩⟩
    .simp only[yq,y8,yY,ab,u];omega
    .simp only[zg,yq,y8,yY,yK,u];omega
    .rw[← ap]
     generalize xs.length * E.size=z at *
     have aw:g.toList.length=g.size:=by simp
     generalize g.toList=cl at *
     simp only[]
     rw[yM,yN,yP,y8,show of-min (of+p) cl.length=0 from by omega,yQ,show of+p-of=p from by omega,zh,y8,zj,yY,
      show min z p=p from by omega,show min p (cl.length-of)=p from by omega,zh,zi (l:=cs) (by omega),List.take_drop,yM,u,yP,show of+p-of=p from by omega,zj,show min p z=p from by omega,yP,yO,show of+(p+E.size)=of+p+E.size from by omega,show z-(p+E.size)=z-p-E.size from by omega]
   .have:b=f:=by simpa [nb] using d
    subst this
    exact⟨by simpa using B.lt rfl,by rw[ig (by rw[A];simp)];simp⟩
   .rw[S]
    have G:=Zl.st D (nin1 X)
    have I:∀b,J b∈l->b≠f:=λb d e=>by rw[e,A]at d;exact cg.1 O d
    have an:=E.st (S':=Zl J w l) G (λb d=>⟨d,ht.block b ⟨d.1,by have:=I b d.2;omega⟩⟩) m
    have aj:=M.st (S':=λb=>Zl J w [q] b/\b+1≠nb (some ⟨f,of,none⟩)) G λb d=>⟨d,ht.block b ⟨d.1.1,d.2⟩⟩
    have Y:∀b,(Zl J w [q] b/\b+1≠nb (some ⟨f,of,none⟩))->rlc J (q::l) w.heap.size q b∈[q]:=λb d=>by
     have s:J b=q:=by simpa using d.1.2
     rw[ig (by rw[s];simp)];simp
    have Z:∀b,Zl J w l b->rlc J (q::l) w.heap.size q b∈[q]:=λb d=>by
     rw[ig (zd _ d.2)];simp
    refine LstH.put an aj (λb d=>⟨⟨⟨by simpa using d.1.1,Y b d⟩,d.2⟩,λh=>?_⟩) (λb d=>⟨⟨by simpa using d.1,Z b d⟩,?_⟩)
    .have s:J b=q:=by simpa using d.1.2
     exact cg.1 O (s ▸ h.2)
    .have:=I b d.2
     simp only[nb];omega
end
section
variable {P:Program}{n:Nat}{C:World->Prop}{o:Oper}{L:Env}
def subA (a:Option Addr) (c l k:Nat):Option Addr:=if c=l then a else a.map (·.add (l * k))
theorem sU {w:World}{t e:TypeId}{a:Option Addr}{len c j:Nat}{l h:Int}{lo hi:Option Value}{k1 k2:IntKind}(b:∀w,(underlying t).run P w= .ok (.slice e) w) (d:∀w,(sizeOf e).run P w= .ok j w)
 (o:lo=none/\l=0\/lo=some (.int k1 l)) (n:hi=none/\h=len\/hi=some (.int k2 h)) (f:0<=l) (g:l<=h) (i:h<=c):
 (Instr.sliceAt t (.slice a len c) lo hi none).run P w= .ok (.slice (subA a c l.toNat j) (h.toNat-l.toNat) (c-l.toNat)) w:=by
 have k:l<=(h.toNat:Int):=by omega
 unfold subA
 rcases o with ⟨rfl,rfl⟩|rfl <;> rcases n with ⟨rfl,rfl⟩|rfl
 .simp[Instr.sliceAt,Instr.slice,Instr.sliceBounds,b,d]
 .simp[Instr.sliceAt,Instr.slice,Instr.sliceBounds,Instr.sliceBound,asIntOf,b,d,g,i]
 .simp[Instr.sliceAt,Instr.slice,Instr.sliceBounds,Instr.sliceBound,asIntOf,b,d,f,g]
 .have m:0<=h:=by omega
  simp[Instr.sliceAt,Instr.slice,Instr.sliceBounds,Instr.sliceBound,asIntOf,b,d,f,m,i,k]
  intro p;omega
theorem jE {α:Type}{xs ys:List α}{t e:TypeId}{x:Operand}{lo hi:Option Operand}{a:Option Addr}{len c d:Nat}{l h:Int}{k1 k2:IntKind}(s:∀w,(underlying t).run P w= .ok (.slice e) w) (u:∀w,(sizeOf e).run P w= .ok d w)
 (p:lo=none/\l=0\/∃y,lo=some y/\opd L y=some (.int k1 l)) (j:hi=none/\h=xs.length\/∃y,hi=some y/\opd L y=some (.int k2 h)) (hs:subS xs l h=some ys) (z:xs.length<=c)
 (q:o.op= .slice t x lo hi none) (hx:opd L x=some (.slice a len c)) (k:len=xs.length):Rn P n C o L (.slice (subA a c l.toNat d) ys.length (c-l.toNat)):=λb w ha _=>by
 obtain⟨f,g,v,i⟩:=qN hs
 subst k
 have r:=sU (P:=P) (w:=w) (a:=a) (len:=xs.length) (c:=c) (lo:=lo.map b.eval) (hi:=hi.map b.eval) (k1:=k1) (k2:=k2) s u
  (p.imp (λ⟨e,h⟩=>⟨by rw[e];rfl,h⟩) λ⟨y,e,h⟩=>by rw[e];simp[ha.eval h]) (j.imp (λ⟨e,h⟩=>⟨by rw[e];rfl,h⟩) λ⟨y,e,h⟩=>by rw[e];simp[ha.eval h]) f g (by omega)
 have m:ys.length=h.toNat-l.toNat:=by rw[i];simp;omega
 rw[m]
 simp[execOp,q,ha.eval hx,r]
end
section
variable {α:Type}{S F:Nat->Prop}{w:World}{a:Option Addr}{c:Nat}{xs ys:List α}{l h:Int}
theorem Sl.sub {E:Rp α}(hs:Sl E S w a c xs) (e:subS xs l h=some ys):Sl E S w (subA a c l.toNat E.size) (c-l.toNat) ys:=by
 obtain⟨u,y,k,f⟩:=qN e
 obtain⟨B,C,g⟩:=hs
 have z:ys.length=h.toNat-l.toNat:=by rw[f];simp;omega
 refine⟨by omega,by omega,?_⟩
 by_cases hy:ys=[]
 .refine .inl ⟨hy,λha=>?_⟩
  unfold subA at ha
  split at ha
  .omega
  .rcases g with ⟨_,r⟩|⟨b,o,d,_⟩
   .cases a with
    |none=>have:=r rfl;omega
    |some p=>cases ha
   .rw[d]at ha;cases ha
 .right
  have A:0<ys.length:=List.length_pos_iff.2 hy
  rcases g with ⟨d,_⟩|⟨b,o,d,q,s⟩
  .subst d;simp at k;omega
  .refine⟨b,o+l.toNat * E.size,?_,q,λi x hx=>?_⟩
   .unfold subA
    rw[if_neg (by omega),d]
    simp[addb]
   .rw[f,yW,yp]at hx
    split at hx
    .obtain⟨cs,m,n⟩:=s _ _ hx
     refine⟨cs,λj v t=>?_,n⟩
     have:=m j v t
     rwa [show o+l.toNat * E.size+i * E.size+j=o+(l.toNat+i) * E.size+j from by rw[yy];omega]
    .cases hx
theorem Ow.sub {E:Ep α}{T:TypeId}(hs:Ow E T F S w a c xs) (e:subS xs l h=some ys):Ow E T F S w (subA a c l.toNat E.size) (c-l.toNat) ys:=by
 obtain⟨y,z,A,j⟩:=qN e
 obtain⟨q,⟨v,x⟩,r,t⟩:=hs
 have m:ys.length=h.toNat-l.toNat:=by rw[j];simp;omega
 have n:nb (subA a c l.toNat E.size)=nb a:=by
  unfold subA
  split
  .rfl
  .cases a with
   |none=>rfl
   |some p=>simp only[zn,nb];unfold Addr.add;split <;> rfl
 refine⟨(q.take (h.toNat * E.size)).drop (l.toNat * E.size),⟨?_,?_⟩,λb s=>r b (by rw[← n];exact s),?_⟩
 .have f:h.toNat * E.size<=xs.length * E.size:=zl _ (by omega)
  rw[m,yY,y8,v,Nat.min_eq_left f,Nat.sub_mul]
 .rcases x with ⟨rfl,G,rfl⟩|⟨i,o,g,rfl,k,H,C,I,u⟩
  .refine .inl ⟨?_,by omega,by omega⟩
   unfold subA;split <;> rfl
  .by_cases d:c=l.toNat
   .refine .inr ⟨i,o,g,by simp[subA,d],k,by omega,by omega,by rw[d];simp;omega,?_⟩
    rw[show ys.length=0 from by omega,Nat.zero_mul,List.take_zero,eq_comm,List.drop_eq_nil_iff,y8]
    have:h.toNat=l.toNat:=by omega
    rw[this];omega
   .have B:l.toNat * E.size<=c * E.size:=zl _ (by omega)
    refine .inr ⟨i,o+l.toNat * E.size,g,by simp[subA,d,addb],k,by omega,by omega,by rw[Nat.sub_mul];omega,?_⟩
    have f:h.toNat * E.size<=xs.length * E.size:=zl _ (by omega)
    have D:l.toNat * E.size<=h.toNat * E.size:=zl _ (by omega)
    rw[m,Nat.sub_mul,← u,zj,Nat.min_eq_left f,yP,yO]
 .rw[j,n]
  exact(t.take h.toNat).drop l.toNat
end
def lpK {b σ:Type}(next:σ->Option (b⊕σ)):b⊕(σ⊕σ)->Option (b⊕σ)
 |.inl r=>some (.inl r)
 |.inr (.inl a)=>some (.inr a)
 |.inr (.inr a)=>next a
theorem jV {a σ:Type}(next:σ->Option (a⊕σ)) (s:σ):lpK next (.inr (.inr s))=next s:=rfl
def aft {a σ α:Type}(b:a->α) (c:σ->α):a⊕σ->α
 |.inl r=>b r
 |.inr d=>c d
theorem pS {b σ α:Type}(a:b->α) (c:σ->α) (r:b):aft a c (.inl r)=a r:=rfl
theorem aU {c σ α:Type}(b:c->α) (a:σ->α) (s:σ):aft b a (.inr s)=a s:=rfl
def cntM {a σ:Type}(f:Int->σ->Option (a⊕(σ⊕σ))):Nat->Int->σ->Option (a⊕σ)
 |0,_,s=>some (.inr s)
 |k+1,j,s=>zm (f j s) (lpK (cntM f k (j+1)))
def bn {a σ:Type}(f:σ->Option (a⊕(σ⊕σ))):Nat->σ->Option (a⊕σ)
 |0,_=>none
 |k+1,s=>zm (f s) (lpK (bn f k))
def nz (z:Int):Option Unit:=if z=0 then none else some ()
theorem uS {z:Int}{u:Unit}(h:nz z=some u):¬z=0:=by unfold nz at h;split at h <;> simp_all
def nn (z:Int):Option Unit:=if z<0 then none else some ()
theorem yc {z:Int}{u:Unit}(h:nn z=some u):¬z<0:=by
 unfold nn at h
 split at h
 .cases h
 .assumption
def rng (z:Int):Option Unit:=if z<=9223372036854775807 then some () else none
theorem ku {z:Int}{u:Unit}(h:rng z=some u):z<=9223372036854775807:=by
 unfold rng at h
 split at h
 .assumption
 .cases h
theorem wr1 {v N:Int}(a:0<=v) (b:v<N) (c:N<=9223372036854775807):IntKind.wrap .i64 (v+1)=v+1:=by
 rw[IntKind.wrap_i64];omega
theorem wr2 {v N:Int}{k:Nat}(a:0<=v) (c:(N-v).toNat=k+1) (b:N<=9223372036854775807):v+1=IntKind.wrap .i64 (v+1):=(wr1 a (by omega) b).symm
theorem nxz {v:Int}(h:0<=v):0<=v+1:=by omega
theorem nxm {v N:Int}{k:Nat}(h:(N-v).toNat=k+1):(N-(v+1)).toNat=k:=by omega
theorem dcf {v N:Int}(h:(N-v).toNat=0):decide (v<N)=false:=decide_eq_false (by omega)
theorem dct {v N:Int}{k:Nat}(h:(N-v).toNat=k+1):decide (v<N)=true:=decide_eq_true (by omega)
theorem exq {a σ:Type}{f:Int->σ->Option (a⊕(σ⊕σ))}{n:Nat}{v:Int}{s:σ}{q:a⊕σ}(_h:cntM f n v s=some q):∃o,(some (.inr (.inl s)):Option (a⊕(σ⊕σ)))=some o:=⟨_,rfl⟩
def getK {K V:Type} [DecidableEq K]:List (K×V)->K->Option V
 | [],_=>none
 |p::r,k=>if k=p.1 then some p.2 else getK r k
def putK {K V:Type} [DecidableEq K]:List (K×V)->K->V->List (K×V)
 | [],k,v=>[(k,v)]
 |p::r,k,v=>if k=p.1 then(k,v)::r else p::putK r k v
section
variable {K V:Type} [DecidableEq K]
theorem pz:∀{xs:List (K×V)}{k:K},(∀p∈xs,p.1≠k)->getK xs k=none
 | [],_,_=>rfl
 |p::r,k,h=>by
  have a:=h p (List.mem_cons_self ..)
  simp only[getK,if_neg (λe=>a e.symm:¬k=p.1)]
  exact pz λc b=>h c (zd _ b)
theorem pL:∀{xs:List (K×V)}{k:K}{v:V},(∀p∈xs,p.1≠k)->putK xs k v=xs++[(k,v)]
 | [],_,_,_=>rfl
 |p::r,k,v,h=>by
  have a:=h p (List.mem_cons_self ..)
  simp only[putK,if_neg (λe=>a e.symm:¬k=p.1),List.cons_append]
  rw[pL λc b=>h c (zd _ b)]
theorem tq:∀{xs:List (K×V)}{k:K}{v:V}{j:Nat},(xs.map (·.1)).Nodup->xs[j]? =some (k,v)->getK xs k=some v
 | [],_,_,_,_,h=>by simp at h
 |p::r,k,v,0,_,h=>by
  simp only[yV,yJ]at h
  subst h
  simp[getK]
 |p::r,k,v,j+1,hn,h=>by
  simp only[List.getElem?_cons_succ]at h
  rw[yt,List.nodup_cons]at hn
  have:¬k=p.1:=λe=>hn.1 (e ▸ List.mem_map.2 ⟨(k,v),ze h,rfl⟩)
  simp only[getK,if_neg this]
  exact tq hn.2 h
theorem tG:∀{xs:List (K×V)}{k:K}{v a:V}{j:Nat},(xs.map (·.1)).Nodup->xs[j]? =some (k,a)->putK xs k v=xs.set j (k,v)
 | [],_,_,_,_,_,h=>by simp at h
 |p::r,k,v,a,0,_,h=>by
  simp only[yV,yJ]at h
  subst h
  simp[putK]
 |p::r,k,v,a,j+1,hn,h=>by
  simp only[List.getElem?_cons_succ]at h
  rw[yt,List.nodup_cons]at hn
  have:¬k=p.1:=λe=>hn.1 (e ▸ List.mem_map.2 ⟨(k,a),ze h,rfl⟩)
  simp only[putK,if_neg this,List.set_cons_succ]
  rw[tG hn.2 h]
omit [DecidableEq K] in
theorem ud {xs:List (K×V)}{k:K}{v a:V}{j:Nat}(h:xs[j]? =some (k,a)):(xs.set j (k,v)).map (·.1)=xs.map (·.1):=by
 apply yS
 intro i
 simp only[yX,List.getElem?_set]
 split
 .rename_i e
  subst e
  split
  .rw[h];rfl
  .rename_i b
   rw[List.getElem?_eq_none (by omega)]
 .rfl
def mget (wf:K->Bool) (xs:List (K×V)) (k:K) (z:V):Option (V×Bool):=if wf k=true then some (match getK xs k with | some v=>(v,true) | none=>(z,false)) else none
def mset (wf:K->Bool) (xs:List (K×V)) (k:K) (v:V):Option (List (K×V)):=if wf k=true then some (putK xs k v) else none
end
structure KeyE (P:Program) (kt:TypeId) {K:Type} (kf:K->Value) (wf:K->Bool):Prop where
 law:WideMaps.KeyLaw P kt
 key:∀k,wf k=true->∃l,keyOf P kt (kf k)=some l
 inj:∀k k',kf k=kf k'->k=k'
def Mx {K V:Type}(wf:K->Bool) (kf:K->Value) (vf:V->Value) (w:World) (b:Nat) (xs:List (K×V)):Prop:=
 ∃a c,w.heap[b]? =some (.map a c)/\a.toList.map (λe=>(e.key,e.val))=xs.map (λp=>(kf p.1,vf p.2))/\(∀p∈xs,wf p.1=true)/\(xs.map (·.1)).Nodup
structure Mc {K V:Type} (wf:K->Bool) (kf:K->Value) (vf:V->Value) (J:Col) (w:World) (i:Nat) (b:Nat) (xs:List (K×V)):Prop where
 mx:Mx wf kf vf w b xs
 col:J b=i
section
variable {K V:Type}{wf:K->Bool}{kf:K->Value}{vf:V->Value}{X:List Nat}{J κ' κ1:Col}{w w' w1:World}{i j b:Nat}{xs:List (K×V)}
theorem Mx.lt (h:Mx wf kf vf w b xs):b<w.heap.size:=by
 obtain⟨d,c,a,_⟩:=h
 exact(pm.1 a).1
theorem Mx.of (h:Mx wf kf vf w b xs) (e:w'.heap[b]? =w.heap[b]?):Mx wf kf vf w' b xs:=by
 obtain⟨c,a,d,f⟩:=h
 exact⟨c,a,e.trans d,f⟩
theorem Mc.stp (h:Mc wf kf vf J w i b xs) (s:Stp X J w κ' w') (e:nin X 0=true:=by exact rfl) (d:nin X i=true:=by exact rfl):Mc wf kf vf κ' w' i b xs:=by
 obtain⟨a,c⟩:=s.keep b h.mx.lt (by rw[h.col];exact cg.1 d)
 exact⟨h.mx.of c,a.trans h.col⟩
theorem Mc.map (h:Mc wf kf vf J w i b xs) (g:Nat->Nat) (a:g 0=0) (hi:g i=j):Mc wf kf vf (λb=>g (J b)) w j b xs:=⟨h.mx,by show g (J b)=j;rw[h.col,hi]⟩
theorem Mc.mx' {base k:Nat}(h:Mc wf kf vf κ1 w1 k b xs) (d:∀b,2<=κ1 b->κ' b=base+κ1 b) (c:yB 2 k=true) (a:base+k=j):Mc wf kf vf κ' w1 j b xs:=
 ⟨h.mx,by rw[d b (by rw[h.col];exact Nat.ble_eq.mp c),h.col,a]⟩
theorem mvC {N:List Nat}(h:Mc wf kf vf J w i b xs) (a:lle [i] N=true):∀w',Cl N J w w'->Mx wf kf vf w' b xs:=λw' c=>h.mx.of (c b h.mx.lt (by rw[h.col];exact nL a _ (by simp)))
end
theorem Mx.find {K V:Type} [DecidableEq K] {P:Program}{kt:TypeId}{wf:K->Bool}{kf:K->Value}{vf:V->Value}{xs:List (K×V)}{c:Array MapEntry}(E:KeyE P kt kf wf) (n:c.toList.map (λe=>(e.key,e.val))=xs.map (λp=>(kf p.1,vf p.2)))
 (x:∀p∈xs,wf p.1=true) (y:(xs.map (·.1)).Nodup) {k:K} (s:wf k=true) (w:World):
 ((Instr.findKey kt (kf k) c.toList).run P w= .ok none w/\∀p∈xs,p.1≠k)\/∃(j:Nat) (v:V) (e:MapEntry),(Instr.findKey kt (kf k) c.toList).run P w= .ok (some (j,vf v)) w/\xs[j]? =some (k,v)/\c[j]? =some e/\e.key=kf k:=by
 have m:∀(j:Nat) (e:MapEntry),c.toList[j]? =some e->∃p,xs[j]? =some p/\e.key=kf p.1/\e.val=vf p.2:=λj e f=>by
  have a:=congrArg (λl=>l[j]?) n
  simp only[yX,f,zn]at a
  cases hx:xs[j]? with
  |none=>rw[hx]at a;cases a
  |some p=>
   rw[hx]at a
   simp only[zn,yJ,Prod.mk.injEq]at a
   exact⟨p,rfl,a.1,a.2⟩
 obtain⟨l,t⟩:=E.key k s
 rcases E.law.find w t c.toList (λe f=>by
  obtain⟨j,g⟩:=List.mem_iff_getElem?.1 f
  obtain⟨p,a,d,_⟩:=m j e g
  rw[d]
  exact E.key _ (x p (ze a))) with ⟨a,d⟩ | ⟨j,e,a,d,b⟩
 .refine .inl ⟨a,λp u i=>?_⟩
  obtain⟨j,g⟩:=List.mem_iff_getElem?.1 u
  have b:=congrArg (λl=>l[j]?) n
  simp only[yX,g,zn]at b
  cases hx:c.toList[j]? with
  |none=>rw[hx]at b;cases b
  |some e=>
   rw[hx]at b
   simp only[zn,yJ,Prod.mk.injEq]at b
   exact d e (ze hx) (by rw[b.1,i])
 .obtain⟨p,o,q,r⟩:=m j e d
  have i:p.1=k:=E.inj _ _ (by rw[← q,b])
  refine .inr ⟨j,p.2,e,by rw[a,r],by rw[o,← i],by simpa using d,b⟩
section
variable {P:Program}{n:Nat}{ops:Array Oper}{C:World->Prop}{N:Act->World->Prop}{r:List (Nat×Nat)}{L:Env}{J:Col}{w:World}{i d:Nat}{o:Oper}
variable {K V:Type} [DecidableEq K] {wf:K->Bool}{kf:K->Value}{vf:V->Value}{xs zs:List (K×V)}{b:Nat}{t kt et:TypeId}{k:K}{v z:V}
theorem uh {x ix:Operand}{r:V×Bool}(E:KeyE P kt kf wf) (ht:∀w,(underlying t).run P w= .ok (.map kt et) w) (D:∀w,(zeroValue et).run P w= .ok (vf z) w) (p:o.op= .lookup t x ix true) (hx:opd L x=some (.map (some b)))
 (m:opd L ix=some (kf k)) (B:∀w,C w->Mx wf kf vf w b xs) (h:mget wf xs k z=some r):Rn P n C o L (.tuple #[vf r.1,.bool r.2]):=λa w ha y=>by
 unfold mget at h
 split at h
 .rename_i q
  simp only[yJ]at h
  subst h
  obtain⟨G,F,f,s,u,g⟩:=B w y
  obtain⟨l,A⟩:=E.key k q
  have i:=λe=>E.law.check w e A
  rcases Mx.find E s u g q w with ⟨c,d⟩|⟨j,v,e,c,d,H,I⟩
  .rw[pz d]
   simp[execOp,p,ha.eval hx,ha.eval m,Instr.lookup,ht,MapKept.run_getObj_map f,i,c,D,Result.andThen]
  .rw[tq g d]
   simp[execOp,p,ha.eval hx,ha.eval m,Instr.lookup,ht,MapKept.run_getObj_map f,i,c,Result.andThen]
 .cases h
omit [DecidableEq K] in
theorem WO.mkmap (q:Nat) (g:ops[i]? =some o) (f:gd ops L o=some true) (e:o.dst=some d) (c:yC d n=true) (j:o.op= .makeMap t none) (wf:K->Bool) (kf:K->Value) (vf:V->Value)
 (k:∀b w' κ',Stp [] J w κ' w'->Mc wf kf vf κ' w' q b []->C w'/\WO P n ops C N r ((d,.map (some b))::L) w'):WO P n ops C N ((i,1)::r) L w:=
 WO.l g f e c λa ha=>by
  unfold Runs
  have:(execOp a.eval o).run P w= .ok (.value (.map (some w.heap.size))) (w.alloc (.map #[] 0)):=by
   simp only[execOp,j,Instr.makeMap,Sem.run_bind,Sem.run_pure,Result.andThen_ok,run_newObj,Option.map_none]
   rfl
  rw[this]
  exact k _ _ _ (Stp.nw q (Ext.alloc _ _)) ⟨⟨#[],0,heap_alloc_new w _,rfl,by simp,by simp⟩,mQ (yE _)⟩
theorem WO.mapup (q:Nat) (ag:ops[i]? =some o) (T:gd ops L o=some true) (ab:o.dst=none){x ix y:Operand}(W:o.op= .mapUpdate t x ix y) (hx:opd L x=some (.map (some b))) (U:opd L ix=some (kf k)) (hy:opd L y=some (vf v))
 (E:KeyE P kt kf wf) (ht:∀w,(underlying t).run P w= .ok (.map kt et) w) (af:Mc wf kf vf J w q b xs) (h:mset wf xs k v=some zs)
 (c:∀w',Stp [q] J w J w'->Mc wf kf vf J w' q b zs->C w'/\WO P n ops C N r L w'):WO P n ops C N ((i,1)::r) L w:=
 WO.ln ag T ab λX ha=>by
  unfold mset at h
  split at h
  .rename_i z
   simp only[yJ]at h
   obtain⟨⟨M,A,g,D,F,u⟩,S⟩:=af
   obtain⟨l,V⟩:=E.key k z
   have R:=E.law.check w false V
   have ae:=(pm.1 g).1
   have K:∃s B,(execOp X.eval o).run P w= .ok .skip { w with heap:=w.heap.setIfInBounds b (.map s B) }/\s.toList.map (λe=>(e.key,e.val))=zs.map (λp=>(kf p.1,vf p.2))/\(∀p∈zs,wf p.1=true)/\(zs.map (·.1)).Nodup:=by
    rcases Mx.find E D F u z w with ⟨G,f⟩|⟨j,am,e,G,f,O,Z⟩
    .rw[pL f]at h
     subst h
     refine⟨M.push { key:=kf k,val:=vf v,born:=A },A+1,?_,?_,?_,?_⟩
     .simp[execOp,W,ha.eval hx,ha.eval U,ha.eval hy,Instr.mapUpdate,ht,MapKept.run_getObj_map g,R,G,MapKept.run_setObj_map _ g,Result.andThen]
     .rw[Array.toList_push,y9,D,y9];rfl
     .intro p d
      rw[List.mem_append,List.mem_singleton]at d
      rcases d with d|rfl
      .exact F p d
      .exact z
     .rw[y9,List.nodup_append]
      refine⟨u,by simp,λa aa c Q e=>?_⟩
      simp only[yt,List.map_nil,List.mem_singleton]at Q
      obtain⟨p,d,rfl⟩:=List.mem_map.1 aa
      exact f p d (e.trans Q)
    .rw[tG u f]at h
     subst h
     have ah:=E.law.stays w V
     refine⟨M.modify j (λe=>{ e with key:=kf k,val:=vf v }),A,?_,?_,?_,?_⟩
     .simp[execOp,W,ha.eval hx,ha.eval U,ha.eval hy,Instr.mapUpdate,ht,MapKept.run_getObj_map g,R,G,O,Z,ah,MapKept.run_setObj_map _ g,Result.andThen]
     .apply yS
      intro m
      have H:=congrArg (λl=>l[m]?) D
      simp only[yX]at H
      simp only[yX,Array.getElem?_toList,Array.getElem?_modify,List.getElem?_set]
      rw[Array.getElem?_toList]at H
      by_cases I:j=m
      .subst I
       have ad:=(yo.1 f).1
       rw[O]
       simp[ad]
      .rw[if_neg I,if_neg I]
       exact H
     .intro p d
      rcases List.mem_or_eq_of_mem_set d with d|rfl
      .exact F p d
      .exact z
     .rw[ud f];exact u
   obtain⟨s,B,ai,aj,ak,al⟩:=K
   unfold Runs
   rw[ai]
   refine c _ ⟨rfl,rfl,rfl,by simp,λY T ac=>⟨rfl,?_⟩⟩ ⟨⟨s,B,by simp[ae],aj,ak,al⟩,S⟩
   have:b≠Y:=λe=>ac (by rw[← e,S];simp)
   simp[Array.getElem?_setIfInBounds_ne this]
  .cases h
end
section
open Go Go.ChangeShapes Go.WideShapes Go.ChangeAt Go.RowKit
theorem ux {w:World}{b o:Nat}{v:Value}(h:w.cell? ⟨b,o,none⟩=some v):b<w.heap.size:=by
 by_cases a:b<w.heap.size
 .exact a
 .have:w.heap[b]? =none:=by simp;omega
  simp[World.cell?,this]at h
def Opn {α:Type}(P:Program) (T:TypeId) (E:Rp α) (a:α->Prop):Prop:=
 ∀{H:Type} (enc:TypeId×Value->H) (w:World) (n:Nat) (cs:List Value) (y:DataW H×List MemPlace),DataW.trod enc P w 0 (λ_=>true) true n T cs=some y->∃x,E.rel (Zl (λ_=>0) w [0,0]) w cs x/\a x
def I64 (n:Int):Prop:= -9223372036854775808<=n/\n<=9223372036854775807
def U8 (n:Int):Prop:=0<=n/\n<=255
def okS {α:Type}(p:α->Prop) (xs:List α):Prop:=(∀x∈xs,p x)/\xs.length<=maxLen
section
variable {P:Program}{T e:TypeId}
theorem xw (ht:P.underlying T=some (.int .u8)):Opn P T (Rp.int .u8) U8:=λenc w n cs y h=>by
 obtain⟨m,rfl,_,a⟩:=DataW.trod_int ht h
 refine⟨m,rfl,?_⟩
 simp[Lit.wf,IntKind.min,IntKind.max,IntKind.bits,IntKind.signed]at a
 unfold U8
 omega
theorem m5 {α:Type}{p:Nat->α->Prop}:∀n:Nat,(∀i,i<n->∃x,p i x)->∃xs:List α,xs.length=n/\∀i x,xs[i]? =some x->p i x
 |0,_=>⟨[],rfl,λi x h=>by cases i <;> cases h⟩
 |n+1,h=>by
  obtain⟨xs,a,b⟩:=m5 n λi c=>h i (by omega)
  obtain⟨x,hx⟩:=h n (by omega)
  refine⟨xs++[x],by simp[a],λi y hy=>?_⟩
  by_cases c:i<n
  .rw[yT (by omega)]at hy
   exact b i y hy
  .have d:i=n:=by
    have:=(yo.1 hy).1
    simp at this;omega
   subst d
   rw[yU (by omega),a]at hy
   simp at hy
   subst hy
   exact hx
theorem xv {α:Type}{E:Rp α}{t:α->Prop}(ht:P.underlying T=some (.slice e)) (L:P.cellsOf e=E.size) (G:yB 1 E.size=true) (h:Opn P e E t):Opn P T (Rp.sl E) (okS t):=λenc w n cs y hy=>by
 rcases Go.Deep.open_slice ht hy with ⟨rfl,_⟩|⟨a,R,u,m,S,D,Pl,rfl,U,W,M,N,_,hx⟩
 .exact⟨[],⟨none,0,rfl,Sl.nil⟩,by simp,by simp⟩
 .have X:m=u:=by simpa using N
  obtain⟨xs,I,l⟩:=m5 (p:=λi x=>t x/\∃c:List Value,c.length=E.size/\(∀j,j<E.size->w.cell? ((a.add (i * E.size)).add j)=c[j]?)/\E.rel (Zl (λ_=>0) w [0,0]) w c x) R λi C=>by
   obtain⟨c,A,K⟩:=hx i (by omega)
   obtain⟨x,d,s⟩:=h enc w S c _ K
   rw[L]at A
   obtain⟨_,q,f⟩:=World.cells?_some A
   exact⟨x,s,c,q,f,d⟩
  refine⟨xs,⟨some a,u,by rw[I],by omega,M,?_⟩,λx hx=>?_,by omega⟩
  .by_cases z:xs=[]
   .exact .inl ⟨z,λh=>by cases h⟩
   .right
    have G:=Nat.ble_eq.mp G
    have F:0<xs.length:=List.length_pos_iff.2 z
    obtain⟨b,o,H⟩:=a
    have Q:∀i x,xs[i]? =some x->∃c:List Value,E.rel (Zl (λ_=>0) w [0,0]) w c x/\∀j v,c[j]? =some v->w.cell? ((⟨b,o,H⟩:Addr).add (i * E.size+j))=some v:=λi x hx=>by
     obtain⟨_,c,q,f,d⟩:=l i x hx
     refine⟨c,d,λj v r=>?_⟩
     have V:=(yo.1 r).1
     have:=f j (by omega)
     rw[Go.Deep.add_add]at this
     rw[this];exact r
    have O:H=none:=by
     obtain⟨_,c,q,f,d⟩:=l 0 xs[0] (by simp[F])
     have g:=f 0 (by omega)
     rw[Nat.zero_mul,Go.Deep.add_add]at g
     have:c[0]? =some c[0]:=by simp
     rw[this]at g
     have:=World.cell?_spot g
     simpa [Addr.add] using this
    subst O
    have B:∀k,(⟨b,o,none⟩:Addr).add k=⟨b,o+k,none⟩:=λk=>by unfold Addr.add;split <;> simp_all
    refine⟨b,o,rfl,⟨?_,by simp⟩,λi x hx=>?_⟩
    .obtain⟨_,c,q,f,d⟩:=l 0 xs[0] (by simp[F])
     have g:=f 0 (by omega)
     rw[Nat.zero_mul,Go.Deep.add_add,B]at g
     have:c[0]? =some c[0]:=by simp
     rw[this]at g
     exact ux g
    .obtain⟨c,d,s⟩:=Q i x hx
     refine⟨c,λj v r=>?_,d⟩
     have:=s j v r
     rw[B]at this
     rw[show o+i * E.size+j=o+(i * E.size+j) from by omega]
     exact this
  .obtain⟨i,C⟩:=List.getElem?_of_mem hx
   exact(l i x C).1
theorem wo {α:Type}{E:Rp α}{a:α->Prop}{H:Type}{enc:TypeId×Value->H}{w:World}{v:Value}{d:DataW H}{e:List MemPlace}(h:Opn P T E a) (b:DataW.Trod enc P w 0 (λ_=>true) true T v d e):
 ∃x,E.rel (Zl (λ_=>0) w [0,0]) w v.cells.toList x/\a x:=by
 obtain⟨n,c⟩:=b
 exact h enc w n _ _ c
end
end
theorem Bc.fzz {J κ':Col}{w:World}{i b:Nat}{T:TypeId}{cs:List Value}(z:∀b,Zl J w [0,i] b->Zl κ' w [0,0] b/\w.heap[b]? =w.heap[b]?) (h:Bc J w i b T cs):Bc κ' w 0 b T cs:=
 ⟨h.bx,by have:=(z b ⟨h.bx.lt,by rw[h.col];simp⟩).1.2;simpa using this⟩
-- comparison with nil of what is not empty
theorem Sl.addr {α:Type}{E:Rp α}{S:Nat->Prop}{w:World}{a:Option Addr}{c:Nat}{xs:List α}(h:Sl E S w a c xs) (d:xs≠[]):∃p,a=some p:=by
 rcases h.2.2 with ⟨e,_⟩|⟨b,o,e,_⟩
 .exact absurd e d
 .exact⟨_,e⟩
section nilcmp
variable {P:Program}{n:Nat}{C:World->Prop}{L:Env}{o:Oper}{x y:Operand}{t t' e:TypeId}{a:Option Addr}{m c:Nat}(ht:∀w,(underlying t).run P w= .ok (.slice e) w) (hs:∃p,a=some p) (hx:opd L x=some (.slice a m c)) (hy:opd L y=some (.slice none 0 0))
include ht hs hx hy
end nilcmp
section dyn
variable {P:Program}{n:Nat}{C:World->Prop}{L:Env}{o:Oper}
end dyn
theorem R {α:Type}{a:α}:a=a:=rfl
theorem Ob {α a:Type}{o:Option α}{f:α->Option a}{r:a}{G:Prop}(h:zm o f=some r) (k:∀x,o=some x->f x=some r->G):G:=by
 obtain⟨x,b,c⟩:=Option.bind_eq_some_iff.mp h
 exact k x b c
@[elab_as_elim] theorem Oh {α:Type} {x r:α} {G:α->Prop} (h:some x=some r) (k:G x):G r:=by cases h;exact k
@[elab_as_elim] theorem Bk {α:Type} {x:Bool} {A B r:Option α} {G:Bool->Prop} (h:(bif x then A else B)=r) (f:x=false->B=r->G false) (t:x=true->A=r->G true):G x:=by
 cases x
 .exact f rfl h
 .exact t rfl h
theorem JT {α:Type}{A B:Option α}{r:Option α}{G:Prop}(k:A=r->G) (h:(bif true then A else B)=r):G:=k h
theorem JF {α:Type}{A B:Option α}{r:Option α}{G:Prop}(k:B=r->G) (h:(bif false then A else B)=r):G:=k h
theorem Tv {p:Prop}(h:p):True/\p:=⟨trivial,h⟩
theorem yI {b σ a:Type}{f:b->Option a}{g:σ->Option a}{s:σ}{r:Option a}(h:aft f g (.inr s)=r):g s=r:=h
theorem yL {b σ a:Type}{f:b->Option a}{g:σ->Option a}{s:b}{r:Option a}(h:aft f g (.inl s)=r):f s=r:=h
def kin:List Nat->Nat->List (Nat×Nat)
 | [],_=>[]
 |k::r,i=>(i,k)::kin r (i+1)
theorem WC.ri {P:Program}{n:Nat}{ops:Array Oper}{Q:Exit->Act->World->Prop}{L:Env}{w:World}{id:Nat}(ks:List Nat) (b:(kin ks 0).map (·.1)=List.range ops.size) (h:WO P n ops (λ_=>True) (λa w=>Q .normal a w) (kin ks 0) L w):WC P n (.region id ops false) Q L w:=WC.rs (kin ks 0) b h
theorem Kn.mm {n:Nat}{L:Env}{a:Act}(h:Kn n L a):∀{L':Env},L'.map (λp=>look L p.1)=L'.map (λp=>some p.2)->Kn n L' a
 | [],_=>h.nil
 |(t,v)::r,e=>by
  simp only[yt,List.cons.injEq]at e
  exact h.more (h.mm e.2) e.1
theorem KM {n:Nat}{L L':Env}(e:L'.map (λp=>look L p.1)=L'.map (λp=>some p.2)):∀a:Act,Kn n L a->Kn n L' a:=λa ha=>ha.mm e
theorem Ja2 {n:Nat}{Q:Exit->Act->World->Prop}{L:Env}{w:World}{k:Nat}{I:Nat->Env->World->Prop}{L':Env}(h:I k L' w) (e:L'.map (λp=>look L p.1)=L'.map (λp=>some p.2)):
 DN n (Exit.then (λb w'=>∃a L',a<k+1/\I a L' w'/\Kn n L' b) Q) .normal L w:=λ_ ha=>⟨k,L',Nat.lt_succ_self _,h,KM e _ ha⟩
theorem KN {n:Nat}{L:Env}:∀a:Act,Kn n L a->Kn n [] a:=λa ha=>ha.nil
theorem BI {α a:Type}{o:Option α}{f:α->Option a}{r:a}(h:zm o f=some r):∃x,o=some x/\f x=some r:=Option.bind_eq_some_iff.mp h
theorem tv:True:=True.intro
abbrev E6:Ep Int:=Ep.int .i64
abbrev vi (x:Int):Value:= .int .i64 x
abbrev Pvb (J:Col) (w:World) (r:Bool):Value->World->Prop:=λv w'=>∃(κ':Col),v= .bool r/\Ent J w κ' w'
abbrev Pvi (J:Col) (w:World) (r:Int):Value->World->Prop:=λv w'=>∃(κ':Col),v=vi r/\Ent J w κ' w'
abbrev Pvs {α:Type}(E:Ep α) (T:TypeId) (J:Col) (w:World) (r:List α):Value->World->Prop:=λv w'=>∃(κ':Col) (a:Option Addr) (b:Nat),v= .slice a r.length b/\Ent J w κ' w'/\Oc E T κ' w' 2 a b r
abbrev Mk (J:Col):Col:=λb=>mp [] 0 (J b)
theorem mp00 (i:Nat):mp [] 0 i=0:=by unfold mp;cases yA i 0 <;> rfl
theorem Jn3 {α:Type}{E:Rp α}{J:Col}{w:World}{i:Nat}{a:Option Addr}{c:Nat}{xs:List α}(h:Rd E J w i a c xs):Rd E (Mk J) w 0 a c xs:=h.map (mp [] 0) rfl (mp00 i)
theorem Jo3 {X:List Nat}{J:Col}{w:World}:Stp X J w J w:=(Stp.refl J w).wk rfl
@[reducible] def dk:List Nat->List (Nat×Nat)
 | []=>[]
 |k::r=>(k / 3,k % 3)::dk r
section
variable {P:Program}{n:Nat}{Q:Exit->Act->World->Prop}{L:Env}{w:World}{ops:Array Oper}{l:Option Nat}{C:World->Prop}{N:Act->World->Prop}{listed:Array Bool}{fuel':Nat}
theorem Xn {id:Nat}(J:Col) (M b:List Nat) (h:∀w1,Stp [] J w J w1->WO P n ops (Cl M J w1) (λa w=>Wlk P ops (λ_=>True) (λa w=>Q .normal a w) [] a w) (dk b) L w1) (d:P.follows .mixedOrders=true:=by kernel_rfl) (c:ordOk ops none (dk b) []=true:=by kernel_rfl):WC P n (.region id ops true) Q L w:=Js1 M none _ _ d c h
end
section
variable {α:Type}{E:Rp α}{e:Ep α}{T:TypeId}{cs:List Value}{X Y:List Nat}{J κ' κ'':Col}{w w' w'':World}{i j b d:Nat}{l:List (Nat×Nat)}{a:Option Addr}{c:Nat}{xs:List α}
theorem Sl.ts (s:Stp X J w κ' w') (h:Rd E J w i a c xs) (b:nin X 0=true) (hi:nin X i=true):Rd E κ' w' i a c xs:=h.stp s b hi
theorem Ow.ts (s:Stp X J w κ' w') (h:Oc e T J w i a c xs) (b:nin X 0=true) (hi:nin X i=true):Oc e T κ' w' i a c xs:=h.stp s b hi
theorem Bc.ts (s:Stp X J w κ' w') (h:Bc J w i b T cs) (a:nin X 0=true) (hi:nin X i=true):Bc κ' w' i b T cs:=h.stp s a hi
theorem Sl.pn (h:Rd E J w i a c xs) (e:mp l d 0=0) (hi:mp l d i=j):Rd E (λb=>mp l d (J b)) w j a c xs:=h.map (mp l d) e hi
theorem Ow.pn (h:Oc e T J w i a c xs) (f:mp l d 0=0) (hi:mp l d i=j):Oc e T (λb=>mp l d (J b)) w j a c xs:=h.map (mp l d) f hi
theorem Bc.pn (h:Bc J w i b T cs) (a:mp l d 0=0) (hi:mp l d i=j):Bc (λb=>mp l d (J b)) w j b T cs:=h.map (mp l d) a hi
end
theorem T3 {X0 X1 X2:List Nat}{a k1 k2 b:Col}{c w1 d e:World}(f:Stp X0 a c k1 w1) (g:Stp X1 k1 w1 k2 d) (i:Stp X2 k2 d b e):Stp (X0++(X1++X2)) a c b e:=f.tr (g.tr i)
theorem T4 {X0 X1 X2 X3:List Nat}{a k1 k2 b c:Col}{d w1 e f g:World}(i:Stp X0 a d k1 w1) (j:Stp X1 k1 w1 k2 e) (k:Stp X2 k2 e b f) (l:Stp X3 b f c g):Stp (X0++(X1++(X2++X3))) a d c g:=i.tr (j.tr (k.tr l))
theorem T5 {X0 X1 X2 X3 X4:List Nat}{a k1 k2 b c d:Col}{e w1 f g i j:World}(k:Stp X0 a e k1 w1) (l:Stp X1 k1 w1 k2 f) (m:Stp X2 k2 f b g) (n:Stp X3 b g c i) (o:Stp X4 c i d j):Stp (X0++(X1++(X2++(X3++X4)))) a e d j:=k.tr (l.tr (m.tr (n.tr o)))
theorem T6 {X0 X1 X2 X3 X4 X5:List Nat}{a k1 k2 b c d e:Col}{f w1 g i j k l:World}(m:Stp X0 a f k1 w1) (n:Stp X1 k1 w1 k2 g) (o:Stp X2 k2 g b i) (p:Stp X3 b i c j) (q:Stp X4 c j d k) (r:Stp X5 d k e l):Stp (X0++(X1++(X2++(X3++(X4++X5))))) a f e l:=m.tr (n.tr (o.tr (p.tr (q.tr r))))
theorem T7 {X0 X1 X2 X3 X4 X5 X6:List Nat}{a k1 k2 b c d e f:Col}{g w1 i j k l m n:World}(o:Stp X0 a g k1 w1) (p:Stp X1 k1 w1 k2 i) (q:Stp X2 k2 i b j) (r:Stp X3 b j c k) (s:Stp X4 c k d l) (t:Stp X5 d l e m) (u:Stp X6 e m f n):Stp (X0++(X1++(X2++(X3++(X4++(X5++X6)))))) a g f n:=o.tr (p.tr (q.tr (r.tr (s.tr (t.tr u)))))
theorem T8 {X0 X1 X2 X3 X4 X5 X6 X7:List Nat}{a k1 k2 b c d e f g:Col}{i w1 j k l m n o p:World}(q:Stp X0 a i k1 w1) (r:Stp X1 k1 w1 k2 j) (s:Stp X2 k2 j b k) (t:Stp X3 b k c l) (u:Stp X4 c l d m) (v:Stp X5 d m e n) (w:Stp X6 e n f o) (x:Stp X7 f o g p):Stp (X0++(X1++(X2++(X3++(X4++(X5++(X6++X7))))))) a i g p:=q.tr (r.tr (s.tr (t.tr (u.tr (v.tr (w.tr x))))))
theorem T9 {X0 X1 X2 X3 X4 X5 X6 X7 X8:List Nat}{a k1 k2 b c d e f g i:Col}{j w1 k l m n o p q r:World}(s:Stp X0 a j k1 w1) (t:Stp X1 k1 w1 k2 k) (u:Stp X2 k2 k b l) (v:Stp X3 b l c m) (w:Stp X4 c m d n) (x:Stp X5 d n e o) (y:Stp X6 e o f p) (z:Stp X7 f p g q) (A:Stp X8 g q i r):Stp (X0++(X1++(X2++(X3++(X4++(X5++(X6++(X7++X8)))))))) a j i r:=s.tr (t.tr (u.tr (v.tr (w.tr (x.tr (y.tr (z.tr A)))))))
theorem T10 {X0 X1 X2 X3 X4 X5 X6 X7 X8 X9:List Nat}{a k1 k2 c d e f g i j b:Col}{k w1 m n o p q r s t l:World}(u:Stp X0 a k k1 w1) (v:Stp X1 k1 w1 k2 m) (w:Stp X2 k2 m c n) (x:Stp X3 c n d o) (y:Stp X4 d o e p) (z:Stp X5 e p f q) (A:Stp X6 f q g r) (B:Stp X7 g r i s) (C:Stp X8 i s j t) (D:Stp X9 j t b l):Stp (X0++(X1++(X2++(X3++(X4++(X5++(X6++(X7++(X8++X9))))))))) a k b l:=u.tr (v.tr (w.tr (x.tr (y.tr (z.tr (A.tr (B.tr (C.tr D))))))))
theorem T11 {X0 X1 X2 X3 X4 X5 X6 X7 X8 X9 X10:List Nat}{a k1 k2 d e f g i j k b c:Col}{l w1 o p q r s t u v m n:World}(w:Stp X0 a l k1 w1) (x:Stp X1 k1 w1 k2 o) (z:Stp X2 k2 o d p) (A:Stp X3 d p e q) (B:Stp X4 e q f r) (C:Stp X5 f r g s) (D:Stp X6 g s i t) (E:Stp X7 i t j u) (F:Stp X8 j u k v) (G:Stp X9 k v b m) (y:Stp X10 b m c n):Stp (X0++(X1++(X2++(X3++(X4++(X5++(X6++(X7++(X8++(X9++X10)))))))))) a l c n:=w.tr (x.tr (z.tr (A.tr (B.tr (C.tr (D.tr (E.tr (F.tr (G.tr y)))))))))
theorem T12 {X0 X1 X2 X3 X4 X5 X6 X7 X8 X9 X10 X11:List Nat}{a k1 k2 e f g i j k l b c d:Col}{m w1 q r s t u v w x n o p:World}(y:Stp X0 a m k1 w1) (z:Stp X1 k1 w1 k2 q) (C:Stp X2 k2 q e r) (D:Stp X3 e r f s) (E:Stp X4 f s g t) (F:Stp X5 g t i u) (G:Stp X6 i u j v) (H:Stp X7 j v k w) (I:Stp X8 k w l x) (K:Stp X9 l x b n) (A:Stp X10 b n c o) (B:Stp X11 c o d p):Stp (X0++(X1++(X2++(X3++(X4++(X5++(X6++(X7++(X8++(X9++(X10++X11))))))))))) a m d p:=y.tr (z.tr (C.tr (D.tr (E.tr (F.tr (G.tr (H.tr (I.tr (K.tr (A.tr B))))))))))
theorem T13 {X0 X1 X2 X3 X4 X5 X6 X7 X8 X9 X10 X11 X12:List Nat}{a k1 k2 f g i j k l m b c d e:Col}{n w1 s t u v w x y z o p q r:World}(A:Stp X0 a n k1 w1) (B:Stp X1 k1 w1 k2 s) (F:Stp X2 k2 s f t) (G:Stp X3 f t g u) (H:Stp X4 g u i v) (I:Stp X5 i v j w) (K:Stp X6 j w k x) (L:Stp X7 k x l y) (M:Stp X8 l y m z) (N:Stp X9 m z b o) (C:Stp X10 b o c p) (D:Stp X11 c p d q) (E:Stp X12 d q e r):Stp (X0++(X1++(X2++(X3++(X4++(X5++(X6++(X7++(X8++(X9++(X10++(X11++X12)))))))))))) a n e r:=A.tr (B.tr (F.tr (G.tr (H.tr (I.tr (K.tr (L.tr (M.tr (N.tr (C.tr (D.tr E)))))))))))
theorem T14 {X0 X1 X2 X3 X4 X5 X6 X7 X8 X9 X10 X11 X12 X13:List Nat}{a k1 k2 g i j k l m n b c d e f:Col}{o w1 u v w x y z A B p q r s t:World}(C:Stp X0 a o k1 w1) (D:Stp X1 k1 w1 k2 u) (I:Stp X2 k2 u g v) (K:Stp X3 g v i w) (L:Stp X4 i w j x) (M:Stp X5 j x k y) (N:Stp X6 k y l z) (O:Stp X7 l z m A) (P:Stp X8 m A n B) (Q:Stp X9 n B b p) (E:Stp X10 b p c q) (F:Stp X11 c q d r) (G:Stp X12 d r e s) (H:Stp X13 e s f t):Stp (X0++(X1++(X2++(X3++(X4++(X5++(X6++(X7++(X8++(X9++(X10++(X11++(X12++X13))))))))))))) a o f t:=C.tr (D.tr (I.tr (K.tr (L.tr (M.tr (N.tr (O.tr (P.tr (Q.tr (E.tr (F.tr (G.tr H))))))))))))
theorem T15 {X0 X1 X2 X3 X4 X5 X6 X7 X8 X9 X10 X11 X12 X13 X14:List Nat}{a k1 k2 i j k l m n o b c d e f g:Col}{p w1 w x y z A B C D q r s t u v:World}(E:Stp X0 a p k1 w1) (F:Stp X1 k1 w1 k2 w) (M:Stp X2 k2 w i x) (N:Stp X3 i x j y) (O:Stp X4 j y k z) (P:Stp X5 k z l A) (Q:Stp X6 l A m B) (R:Stp X7 m B n C) (S:Stp X8 n C o D) (T:Stp X9 o D b q) (G:Stp X10 b q c r) (H:Stp X11 c r d s) (I:Stp X12 d s e t) (K:Stp X13 e t f u) (L:Stp X14 f u g v):Stp (X0++(X1++(X2++(X3++(X4++(X5++(X6++(X7++(X8++(X9++(X10++(X11++(X12++(X13++X14)))))))))))))) a p g v:=E.tr (F.tr (M.tr (N.tr (O.tr (P.tr (Q.tr (R.tr (S.tr (T.tr (G.tr (H.tr (I.tr (K.tr L)))))))))))))
theorem T16 {X0 X1 X2 X3 X4 X5 X6 X7 X8 X9 X10 X11 X12 X13 X14 X15:List Nat}{a k1 k2 j k l m n o p b c d e f g i:Col}{q w1 y z A B C D E F r s t u v w x:World}(G:Stp X0 a q k1 w1) (H:Stp X1 k1 w1 k2 y) (P:Stp X2 k2 y j z) (Q:Stp X3 j z k A) (R:Stp X4 k A l B) (S:Stp X5 l B m C) (T:Stp X6 m C n D) (U:Stp X7 n D o E) (V:Stp X8 o E p F) (W:Stp X9 p F b r) (I:Stp X10 b r c s) (K:Stp X11 c s d t) (L:Stp X12 d t e u) (M:Stp X13 e u f v) (N:Stp X14 f v g w) (O:Stp X15 g w i x):Stp (X0++(X1++(X2++(X3++(X4++(X5++(X6++(X7++(X8++(X9++(X10++(X11++(X12++(X13++(X14++X15))))))))))))))) a q i x:=G.tr (H.tr (P.tr (Q.tr (R.tr (S.tr (T.tr (U.tr (V.tr (W.tr (I.tr (K.tr (L.tr (M.tr (N.tr O))))))))))))))
theorem pC (a:IntKind):∀xs:List Int,((xs.map (Value.int a)).flatMap λv=>v.cells.toList)=xs.map (Value.int a)
 | []=>rfl
 |x::xs=>congrArg (Value.int a x:: ·) (pC a xs)
theorem rv (a:IntKind):∀xs:List Int,((xs.map (Value.int a)).all λv=>yA v.cells.size 1)=true
 | []=>rfl
 |x::xs=>rv a xs
theorem ry (a:IntKind){J:Col}{w:World}:∀xs:List Int,LstO (Ep.int a) (Zl J w [0]) w (Zl J w []) (xs.map (Value.int a)) xs
 | []=>rfl
 |x::xs=>⟨[.int a x],xs.map (Value.int a),Zl J w [],Zl J w [],rfl,λb c=>⟨c,λh=>by cases h.2⟩,λb c=>c,rfl,ry a xs⟩
section
variable {P:Program}{n:Nat}{Q:Exit->Act->World->Prop}{L L':Env}{w:World}{ops:Array Oper}{N:Act->World->Prop}{r r':List (Nat×Nat)}{i d:Nat}{o:Oper}{v:Value}{C:World->Prop}
theorem Jd {y:Code}(h:WC P n y Q L w):WO P n ops C (λa w=>Exit.then (y.wp P Q) Q .normal a w) [] L w:=Jo (Q:=Exit.then (y.wp P Q) Q) (DN.seq h)
theorem Jc (m:Nat) (e:Wk.pn ops n m r L=some ([],L')) (h:DN n Q .normal L' w):WO P n ops C (λa w=>Q .normal a w) r L w:=WO.pn m e (Jo h)
theorem Jb (m:Nat){y:Code}(e:Wk.pn ops n m r L=some ([],L')) (h:WC P n y Q L' w):WO P n ops C (λa w=>Exit.then (y.wp P Q) Q .normal a w) r L w:=WO.pn m e (Jd h)
theorem WC.sri {x:Nat}{y:Code}(ks:List Nat) (b:(kin ks 0).map (·.1)=List.range ops.size) (h:WO P n ops (λ_=>True) (λa w=>Exit.then (y.wp P Q) Q .normal a w) (kin ks 0) L w):WC P n (.seq (.region x ops false) y) Q L w:=WC.seq (WC.ri ks b h)
def gop (ops:Array Oper) (L:Env) (n i:Nat):Option (Oper×Nat):=
 match ops[i]? with
 |some o=>match gd ops L o with
  |some true=>match o.dst with
   |some d=>match yC d n with
    |true=>some (o,d)
    |false=>none
   |none=>none
  |_=>none
 |none=>none
theorem bY (h:gop ops L n i=some (o,d)):ops[i]? =some o/\gd ops L o=some true/\o.dst=some d/\yC d n=true:=by
 unfold gop at h
 split at h
 .rename_i g a
  split at h
  .rename_i b
   split at h
   .rename_i f c
    split at h
    .rename_i e
     simp only[yJ,Prod.mk.injEq]at h
     obtain⟨rfl,rfl⟩:=h
     exact⟨a,b,c,e⟩
    .cases h
   .cases h
  .cases h
 .cases h
theorem Jg (g:gop ops L n i=some (o,d)) (a:Rn P n C o L v) (k:WO P n ops C N r ((d,v)::L) w):WO P n ops C N ((i,0)::r) L w:=
 WO.k0 (bY g).1 (bY g).2.1 (bY g).2.2.1 (bY g).2.2.2 a k
theorem Jf (g:gop ops L n i=some (o,d)) (a:Rn P n (λ_=>True) o L v) (k:WO P n ops C N r ((d,v)::L) w):WO P n ops C N ((i,2)::r) L w:=
 WO.k2 (bY g).1 (bY g).2.1 (bY g).2.2.1 (bY g).2.2.2 a k
theorem WO.callg (g:gop ops L n i=some (o,d)){f:FuncId}{xs:List Operand}{e:Array TypeId}{vs:List Value}
 (b:o.op= .call { callee:= .value (.func f),args:=xs.toArray,argTypes:=e }) (c:opds L xs=some vs) (a:∀(as:Array Value) (w:World),(callFunc f as).run P w= .ok (.enter f as) w)
 {R:Value->World->Prop} (h:Ret P f vs w R) (k:∀v w',R v w'->C w'/\WO P n ops C N r ((d,v)::L) w'):WO P n ops C N ((i,1)::r) L w:=
 WO.call (bY g).1 (bY g).2.1 (bY g).2.2.1 (bY g).2.2.2 b c a h k
theorem tu:∀(ks:List Nat) (i:Nat),(kin ks i).map (·.1)=List.range' i ks.length
 | [],_=>rfl
 |k::r,i=>by
  show i::(kin r (i+1)).map (·.1)=_
  rw[tu r (i+1)];rfl
theorem mh {ks:List Nat}{k:Nat}(h:ks.length=k):(kin ks 0).map (·.1)=List.range k:=by
 rw[tu,h,List.range_eq_range']
def kof (o:Oper):Nat:=match o.op with
 |.box _ _ | .alloc _ | .store _ _ _ | .makeSlice _ _ _ | .buildSlice _ _ _ | .makeMap _ _ | .mapUpdate _ _ _ _ | .mapEntry _ _ _ | .entryStore _ _ _ _ | .insert _ _ _ _ | .range _ _ | .next _ _ | .load _ _ | .lookup _ _ _ _=>1
 |.call c=>match c.callee with
  |.builtin b=>match b with
   |.len | .cap | .min | .max=>2
   |_=>1
  |_=>1
 |_=>2
def kos (ops:Array Oper):List (Nat×Nat):=kin (ops.toList.map kof) 0
theorem tw {ops:Array Oper}:(kos ops).map (·.1)=List.range ops.size:=mh (by simp)
theorem Jf3 {x:Nat}{y:Code}(e:Wk.pn ops n ops.size (kin (zf ops.size 2) 0) L=some ([],L')) (h:WC P n y Q L' w):WC P n (.seq (.region x ops false) y) Q L w:=
 WC.sri (zf ops.size 2) (mh (yZ ..)) (Jb ops.size e h)
theorem Jg3 {x:Nat}(e:Wk.pn ops n ops.size (kin (zf ops.size 2) 0) L=some ([],L')) (h:DN n Q .normal L' w):WC P n (.region x ops false) Q L w:=
 WC.ri (zf ops.size 2) (mh (yZ ..)) (Jc ops.size e h)
theorem Jj3 {x:Nat}{y:Code}(h:WO P n ops (λ_=>True) (λa w=>Exit.then (y.wp P Q) Q .normal a w) (kos ops) L w):WC P n (.seq (.region x ops false) y) Q L w:=WC.seq (WC.rs (kos ops) tw h)
theorem Jk3 {x:Nat}(h:WO P n ops (λ_=>True) (λa w=>Q .normal a w) (kos ops) L w):WC P n (.region x ops false) Q L w:=WC.rs (kos ops) tw h
def pst (ops:Array Oper) (n:Nat) (ks:List Nat) (m:Nat) (L:Env):Option (List (Nat×Nat)×Env):=
 match yA ks.length ops.size with
 |true=>Wk.pn ops n m (kin ks 0) L
 |false=>none
theorem qo {ks:List Nat}{m:Nat}(h:pst ops n ks m L=some (r',L')):ks.length=ops.size/\Wk.pn ops n m (kin ks 0) L=some (r',L'):=by
 unfold pst at h
 split at h
 .rename_i e;exact⟨Nat.eq_of_beq_eq_true e,h⟩
 .cases h
theorem Jh3 {x:Nat}{y:Code}(ks:List Nat) (m:Nat) (e:pst ops n ks m L=some (r',L')) (h:WO P n ops (λ_=>True) (λa w=>Exit.then (y.wp P Q) Q .normal a w) r' L' w):WC P n (.seq (.region x ops false) y) Q L w:=
 WC.sri ks (mh (qo e).1) (WO.pn m (qo e).2 h)
theorem Ji3 {x:Nat}(ks:List Nat) (m:Nat) (e:pst ops n ks m L=some (r',L')) (h:WO P n ops (λ_=>True) (λa w=>Q .normal a w) r' L' w):WC P n (.region x ops false) Q L w:=
 WC.ri ks (mh (qo e).1) (WO.pn m (qo e).2 h)
theorem Jl3 {x:Nat}{y:Code}(m:Nat) (e:Wk.pn ops n m (kos ops) L=some (r',L')) (h:WO P n ops (λ_=>True) (λa w=>Exit.then (y.wp P Q) Q .normal a w) r' L' w):WC P n (.seq (.region x ops false) y) Q L w:=Jj3 (WO.pn m e h)
theorem Jm3 {x:Nat}(m:Nat) (e:Wk.pn ops n m (kos ops) L=some (r',L')) (h:WO P n ops (λ_=>True) (λa w=>Q .normal a w) r' L' w):WC P n (.region x ops false) Q L w:=Jk3 (WO.pn m e h)
def gld (ops:Array Oper) (L:Env) (n i:Nat):Option (TypeId×Addr×Nat):=
 match gop ops L n i with
 |some (o,d)=>match o.op with
  |.load t x=>match opd L x with
   |some (.pointer (some p))=>some (t,p,d)
   |_=>none
  |_=>none
 |none=>none
theorem WO.ldq {t:TypeId}{p:Addr}{l:List Nat}{J:Col}(g:gld ops L n i=some (t,p,d)) (ht:∀w,(isAgg t).run P w= .ok false w) (e:∀w',Ag l J w w'->w'.cell? p=some v) (k:WO P n ops (λ_=>True) N r ((d,v)::L) w):WO P n ops (λ_=>True) N ((i,1)::r) L w:=by
 unfold gld at g
 split at g
 .rename_i j f a
  split at g
  .rename_i t' x b
   split at g
   .rename_i m c
    simp only[yJ,Prod.mk.injEq]at g
    obtain⟨rfl,rfl,rfl⟩:=g
    exact WO.k1 trivial (bY a).1 (bY a).2.1 (bY a).2.2.1 (bY a).2.2.2 (wQ ht b c (hvE e)) k
   .cases g
  .cases g
 .cases g
def gfa (ops:Array Oper) (L:Env) (n i:Nat):Option (TypeId×Nat×Addr×Nat):=
 match gop ops L n i with
 |some (o,d)=>match o.op with
  |.fieldAddr t x j=>match opd L x with
   |some (.pointer (some p))=>some (t,j,p,d)
   |_=>none
  |_=>none
 |none=>none
theorem WO.faq {t:TypeId}{j:Nat}{p:Addr}{a:Array Field}{f:Field}{o:Nat}(g:gfa ops L n i=some (t,j,p,d)) (ht:∀w,(underlying t).run P w= .ok (.struct a) w) (l:a[j]? =some f) (m:∀w,(sizeOf f.type).run P w= .ok (o+1) w) (k:WO P n ops C N r ((d,.pointer (some (p.add f.offset)))::L) w):WO P n ops C N ((i,2)::r) L w:=by
 unfold gfa at g
 split at g
 .rename_i u q b
  split at g
  .rename_i t' x s c
   split at g
   .rename_i v e
    simp only[yJ,Prod.mk.injEq]at g
    obtain⟨rfl,rfl,rfl,rfl⟩:=g
    exact Jf b (qu ht l m c e) k
   .cases g
  .cases g
 .cases g
def gix (ops:Array Oper) (L:Env) (n i:Nat):Option (TypeId×Option Addr×Nat×Nat×IntKind×Int×Nat):=
 match gop ops L n i with
 |some (o,d)=>match o.op with
  |.indexAddr t x ix=>match opd L x with
   |some (.slice a l c)=>match opd L ix with
    |some (.int b z)=>some (t,a,l,c,b,z,d)
    |_=>none
   |_=>none
  |_=>none
 |none=>none
theorem Jd3 {α:Type}{E:Rp α}{S:Nat->Prop}{s:World}{t e:TypeId}{a:Option Addr}{c b:Nat}{q:IntKind}{z:Int}{xs:List α}{y:α}(g:gix ops L n i=some (t,a,xs.length,c,q,z,d)) (hs:Sl E S s a c xs) (h:idx xs z=some y)
 (ht:∀w,(underlying t).run P w= .ok (.slice e) w) (p:∀w,(sizeOf e).run P w= .ok b w) (k:WO P n ops C N r ((d,.pointer (some (aAt a (z.toNat * b))))::L) w):WO P n ops C N ((i,2)::r) L w:=by
 unfold gix at g
 split at g
 .rename_i F A f
  split at g
  .rename_i t' x ix j
   split at g
   .rename_i u D v l
    split at g
    .rename_i B G m
     simp only[yJ,Prod.mk.injEq]at g
     obtain⟨rfl,rfl,o,rfl,rfl,rfl,rfl⟩:=g
     exact Jf f (rL hs h ht p j l o m) k
    .cases g
   .cases g
  .cases g
 .cases g
theorem Jp3 {f:FuncId}{a:Func}{c:Code}{b:List Value}(J:Col){R:Value->World->Prop}(g:P.funcs[f]? =some a) (d:a.body=some c) (j:a.ntmps=n) (i:yB b.length n=true) (k:Ent J w J w->WC P n c (bodyPost P a (λe w'=>∃v,e= .returned v/\R v w')) (qZ 0 b) w):Ret P f b w R:=Ret.enter g d j i (k (Ent.refl J w))
theorem WO.lnr {x:Operand}{t e:TypeId}{a:Option Addr}{l c:Nat}(g:gop ops L n i=some (o,d)) (ht:∀w,(underlying t).run P w= .ok (.slice e) w) (b:o.op= .call { callee:= .builtin .len,args:= #[x],argTypes:= #[t] })
 (hx:opd L x=some (.slice a l c)) (k:WO P n ops C N r ((d,.int .i64 (l:Int))::L) w):WO P n ops C N ((i,2)::r) L w:=Jf g (xI ht b hx) k
def gos (ops:Array Oper) (L:Env) (i:Nat):Option Oper:=
 match ops[i]? with
 |some o=>match gd ops L o with
  |some true=>match o.dst with
   |none=>some o
   |some _=>none
  |_=>none
 |none=>none
theorem uE (h:gos ops L i=some o):ops[i]? =some o/\gd ops L o=some true/\o.dst=none:=by
 unfold gos at h
 split at h
 .rename_i d a
  split at h
  .rename_i b
   split at h
   .rename_i c
    simp only[yJ]at h
    obtain rfl:=h
    exact⟨a,b,c⟩
   .cases h
  .cases h
 .cases h
def gof (ops:Array Oper) (L:Env) (n i:Nat):Option (Oper×Nat):=
 match ops[i]? with
 |some o=>match gd ops L o with
  |some false=>match o.dst with
   |some d=>match yC d n with
    |true=>some (o,d)
    |false=>none
   |none=>none
  |_=>none
 |none=>none
theorem ki (h:gof ops L n i=some (o,d)):ops[i]? =some o/\gd ops L o=some false/\o.dst=some d/\yC d n=true:=by
 unfold gof at h
 split at h
 .rename_i g a
  split at h
  .rename_i b
   split at h
   .rename_i f c
    split at h
    .rename_i e
     simp only[yJ,Prod.mk.injEq]at h
     obtain⟨rfl,rfl⟩:=h
     exact⟨a,b,c,e⟩
    .cases h
   .cases h
  .cases h
 .cases h
theorem Je4 (g:gof ops L n i=some (o,d)) (k:WO P n ops C N r ((d,undef)::L) w):WO P n ops C N ((i,1)::r) L w:=WO.ls (ki g).1 (ki g).2.1 (ki g).2.2.1 (ki g).2.2.2 k
theorem Jf4 (g:gof ops L n i=some (o,d)) (k:WO P n ops C N r ((d,undef)::L) w):WO P n ops C N ((i,0)::r) L w:=WO.qs (ki g).1 (ki g).2.1 (ki g).2.2.1 (ki g).2.2.2 k
theorem Jg4 (a:C w) (g:gop ops L n i=some (o,d)) (b:Rn P n (λx=>x=w) o L v) (k:WO P n ops C N r ((d,v)::L) w):WO P n ops C N ((i,1)::r) L w:=
 WO.k1 a (bY g).1 (bY g).2.1 (bY g).2.2.1 (bY g).2.2.2 b k
theorem Jw3 {f:FuncId}{xs:List Operand}{b:Array TypeId}{vs:List Value}(e:(gop ops L n i,o.op,opds L xs)=(some (o,d),.call { callee:= .value (.func f),args:=xs.toArray,argTypes:=b },some vs))
 (a:∀(as:Array Value) (w:World),(callFunc f as).run P w= .ok (.enter f as) w) {R:Value->World->Prop} (h:Ret P f vs w R) (k:∀v w',R v w'->C w'/\WO P n ops C N r ((d,v)::L) w'):WO P n ops C N ((i,1)::r) L w:=
 WO.callg (congrArg (·.1) e) (congrArg (·.2.1) e) (congrArg (·.2.2) e) a h k
theorem xH {x:Operand}{t:TypeId}{p:Addr}{cs:List Value}{k:Nat}(b:∀w,C w->∀(j:Nat) v,cs[j]? =some v->w.cell? (p.add j)=some v) (ht:∀w,(isAgg t).run P w= .ok true w) (a:∀w,(sizeOf t).run P w= .ok k w)
 (e:(o.op,opd L x,cs.length)=(.load t x,some (.pointer (some p)),k)):Rn P n C o L (.agg cs.toArray):=yd ht a (congrArg (·.1) e) (congrArg (·.2.1) e) (congrArg (·.2.2) e) b
theorem WO.boxq (J:Col) (q:Nat){T:TypeId}{x:Operand}{cs:List Value}(e:(gop ops L n i,o.op,opd L x,v.cells)=(some (o,d),.box T x,some v,cs.toArray))
 (k:∀b w' κ',Stp [] J w κ' w'->Bc κ' w' q b T cs->C w'/\WO P n ops C N r ((d,.pointer (some ⟨b,0,none⟩))::L) w'):WO P n ops C N ((i,1)::r) L w:=
 have a:=bY (congrArg (·.1) e);WO.box q a.1 a.2.1 a.2.2.1 a.2.2.2 (congrArg (·.2.1) e) (congrArg (·.2.2.1) e) (congrArg (·.2.2.2) e) k
theorem WO.allocq (J:Col) (q:Nat){T:TypeId}{z:Value}{cs:List Value}(e:(gop ops L n i,o.op)=(some (o,d),.alloc T)) (f:∀w,(zeroValue T).run P w= .ok z w) (c:z.cells=cs.toArray)
 (k:∀b w' κ',Stp [] J w κ' w'->Bc κ' w' q b T cs->C w'/\WO P n ops C N r ((d,.pointer (some ⟨b,0,none⟩))::L) w'):WO P n ops C N ((i,1)::r) L w:=
 have a:=bY (congrArg (·.1) e);WO.alloc q a.1 a.2.1 a.2.2.1 a.2.2.2 (congrArg (·.2) e) f c k
theorem WO.stBq (J:Col) (q:Nat){t T:TypeId}{x y:Operand}{b off a:Nat}{cs vc cs':List Value}
 (e:(gos ops L i,o.op,opd L x,opd L y,v.cells)=(some o,.store t x y,some (.pointer (some ((⟨b,0,none⟩:Addr).add off))),some v,vc.toArray)) (j:∀w,(sizeOf t).run P w= .ok a w) (d:(vc.length,(vc.all λl=>l.oneCell'))=(a,true))
 (g:Bc J w q b T cs) (f:(yB (off+a) cs.length,cs.take off++vc++cs.drop (off+a))=(true,cs'))
 (k:∀w',Stp [q] J w J w'->Bc J w' q b T cs'->C w'/\WO P n ops C N r L w'):WO P n ops C N ((i,1)::r) L w:=
 have c:=uE (congrArg (·.1) e);WO.stB q c.1 c.2.1 c.2.2 (congrArg (·.2.1) e) (congrArg (·.2.2.1) e) (congrArg (·.2.2.2.1) e) (congrArg (·.2.2.2.2) e) j (congrArg (·.1) d) (congrArg (·.2) d) g (congrArg (·.1) f) (congrArg (·.2) f) k
theorem WO.blq (J:Col){α:Type}(E:Ep α) (q:Nat) (l:List Nat){t T:TypeId}{len:Nat}{parts:List (Nat×Operand)}{vs:List Value}{cells:List Value}{m:Value}{f:TypeInfo}{xs:List α}
 (e:(gop ops L n i,o.op,opds L (parts.map (·.2)))=(some (o,d),.buildSlice t len parts.toArray,some vs)) (ht:P.underlying t=some (.slice T)) (hi:P.info? T=some f)
 (b:(f.zero,f.size,yB (len * f.size) 16777216,yC 0 (len * f.size),zk (parts.map (·.1)) vs,vs.length,(vs.flatMap λv=>v.cells.toList),xs.length,(vs.all λv=>yA v.cells.size E.size),nin l 0)=(some m,E.size,true,true,((vs.zipIdx 0).map λx=>(x.2,x.1)),len,cells,len,true,true))
 (j:LstO E (Zl J w [0]) w (Zl J w l) cells xs)
 (k:∀a c w' κ',Stp l J w κ' w'->Oc E T κ' w' q a c xs->C w'/\WO P n ops C N r ((d,.slice a xs.length c)::L) w'):WO P n ops C N ((i,1)::r) L w:=
 have g:=bY (congrArg (·.1) e);WO.bl q l g.1 g.2.1 g.2.2.1 g.2.2.2 (congrArg (·.2.1) e) (congrArg (·.2.2) e) ht hi (congrArg (·.1) b) (congrArg (·.2.1) b) (congrArg (·.2.2.1) b) (congrArg (·.2.2.2.1) b) (congrArg (·.2.2.2.2.1) b) (congrArg (·.2.2.2.2.2.1) b) (congrArg (·.2.2.2.2.2.2.1) b) (congrArg (·.2.2.2.2.2.2.2.1) b) (congrArg (·.2.2.2.2.2.2.2.2.1) b) (congrArg (·.2.2.2.2.2.2.2.2.2) b) j k
theorem WO.bl0q (J:Col){α:Type}(E:Ep α) (q:Nat){t T:TypeId}{f:TypeInfo}(e:(gop ops L n i,o.op)=(some (o,d),.buildSlice t 0 #[])) (ht:P.underlying t=some (.slice T)) (hi:P.info? T=some f) (hs:f.size=E.size)
 (k:∀a c w' κ',Stp [] J w κ' w'->Oc E T κ' w' q a c ([]:List α)->C w'/\WO P n ops C N r ((d,.slice a ([]:List α).length c)::L) w'):WO P n ops C N ((i,1)::r) L w:=
 have b:=bY (congrArg (·.1) e);WO.bl0 q b.1 b.2.1 b.2.2.1 b.2.2.2 (congrArg (·.2) e) ht hi hs k
theorem WO.appq (J:Col){α:Type}(E:Ep α) (q:Nat) (l:List Nat){t T:TypeId}{x y:Operand}{p:Nat}{z:Value}{j:TypeInfo}{a ay:Option Addr}{c cy u v:Nat}{xs ys zs:List α}{Sy:Nat->Prop}
 (e:(gop ops L n i,o.op,opd L x,u,opd L y,v)=(some (o,d),.call { callee:= .builtin .append,args:= #[x,y],argTypes:= #[t,t] },some (.slice a u c),xs.length,some (.slice ay v cy),ys.length))
 (ht:P.underlying t=some (.slice T)) (F:P.info? T=some j) (f:(j.zero,j.size,j.bytes,z.cells.size)=(some z,E.size,p,E.size))
 (G:Oc E T J w q a c xs) (H:SrcO E (Zl J w [0]) Sy w ay cy ys) (B:∀b,Sy b->Zl J w l b/\J b≠q) (D:appS p xs ys=some zs) (A:nin (q::l) 0=true)
 (k:∀m s w' κ',Stp (q::l) J w κ' w'->Oc E T κ' w' q m s zs->C w'/\WO P n ops C N r ((d,.slice m zs.length s)::L) w'):WO P n ops C N ((i,1)::r) L w:=
 have g:=bY (congrArg (·.1) e);WO.app q l g.1 g.2.1 g.2.2.1 g.2.2.2 (congrArg (·.2.1) e) (congrArg (·.2.2.1) e) (congrArg (·.2.2.2.1) e) (congrArg (·.2.2.2.2.1) e) (congrArg (·.2.2.2.2.2) e) ht F (congrArg (·.1) f) (congrArg (·.2.1) f) (congrArg (·.2.2.1) f) (congrArg (·.2.2.2) f) G H B D A k
theorem WO.bli (J:Col){b:IntKind}(q:Nat) (xs:List Int){t T:TypeId}{len:Nat}{parts:List (Nat×Operand)}{l:Value}{g:TypeInfo}
 (e:(gop ops L n i,o.op,opds L (parts.map (·.2)))=(some (o,d),.buildSlice t len parts.toArray,some (xs.map (Value.int b)))) (ht:P.underlying t=some (.slice T)) (hi:P.info? T=some g)
 (f:(g.zero,g.size,yB (len * g.size) 16777216,yC 0 (len * g.size),zk (parts.map (·.1)) (xs.map (Value.int b)),xs.length)=(some l,1,true,true,(((xs.map (Value.int b)).zipIdx 0).map λx=>(x.2,x.1)),len))
 (k:∀a c w' κ',Stp [] J w κ' w'->Oc (Ep.int b) T κ' w' q a c xs->C w'/\WO P n ops C N r ((d,.slice a xs.length c)::L) w'):WO P n ops C N ((i,1)::r) L w:=
 have j:=bY (congrArg (·.1) e)
 WO.bl (E:=Ep.int b) q [] j.1 j.2.1 j.2.2.1 j.2.2.2 (congrArg (·.2.1) e) (congrArg (·.2.2) e) ht hi (congrArg (·.1) f) (congrArg (·.2.1) f) (congrArg (·.2.2.1) f) (congrArg (·.2.2.2.1) f) (congrArg (·.2.2.2.2.1) f) ((List.length_map ..).trans (congrArg (·.2.2.2.2.2) f)) (pC b xs) (congrArg (·.2.2.2.2.2) f) (rv b xs) rfl (ry b xs) k
theorem Jj4 {α:Type}{E:Ep α}{J:Col}{l:List Nat}{cells:List Value}{x:α}(h:E.rel (Zl J w [0]) (Zl J w l) w cells x):LstO E (Zl J w [0]) w (Zl J w l) cells [x]:=
 ⟨cells,[],Zl J w l,Zl J w [],(List.append_nil _).symm,λb a=>⟨a,λh=>by cases h.2⟩,λb a=>Zl.mono (by simp) a,h,rfl⟩
theorem WO.meetB {E:Env}(ks:List Nat) (k:Nat) (p:Bool) (J:Col) (b:World) (m:Nat) (c:C w)
 (h:WO P n ops C (λa w=>∃L,(C w/\(L=(k,.bool p)::E/\∃κ',Stp [] J b κ' w))/\Kn n L a) (r.take m) L w) (d:∀L w,C w->(L=(k,.bool p)::E/\∃κ',Stp [] J b κ' w)->WO P n ops C N (r.drop m) L w)
 (e:Kp ks L E:=by repeat (first | exact Kp.nil | apply Kp.cons | exact Gp.here | apply Gp.next)):WO P n ops C N r L w:=
 List.take_append_drop m r ▸ WO.meet (r.take m) (r.drop m) (λL w'=>L=(k,.bool p)::E/\∃κ',Stp [] J b κ' w') c h d
theorem WO.metB {p:Bool}{J:Col}{k:Nat}{E:Env}(b:C w) (c:(((k,Value.bool p)::E).map λx=>look L x.1)=((k,Value.bool p)::E).map λx=>some x.2):WO P n ops C (λa w'=>∃L,(C w'/\(L=(k,.bool p)::E/\∃κ',Stp [] J w κ' w'))/\Kn n L a) [] L w:=
 Jv1 (I:=λL w'=>L=(k,.bool p)::E/\∃κ',Stp [] J w κ' w') _ b ⟨rfl,_,Jo3⟩ λa ha=>ha.mm c
theorem WO.stB0a (J:Col) (q:Nat){t T:TypeId}{x y:Operand}{b c:Nat}{cs vc:List Value}
 (e:(gos ops L i,o.op,opd L x,opd L y)=(some o,.store t x y,some (.pointer (some ⟨b,0,none⟩)),some (.agg vc.toArray))) (j:∀w,(sizeOf t).run P w= .ok c w) (d:(vc.length,(vc.all λl=>l.oneCell'))=(c,true))
 (f:Bc J w q b T cs) (g:cs.length=c)
 (k:∀w',Stp [q] J w J w'->Bc J w' q b T vc->C w'/\WO P n ops C N r L w'):WO P n ops C N ((i,1)::r) L w:=
 have a:=uE (congrArg (·.1) e)
 WO.stB0 (vc:=vc) q a.1 a.2.1 a.2.2 (congrArg (·.2.1) e) (congrArg (·.2.2.1) e) (congrArg (·.2.2.2) e) rfl j (congrArg (·.1) d) (congrArg (·.2) d) f g k
theorem xC {t:TypeId}{parts:List (Nat×Operand)}{vs:List Value}(cells:List Value) (e:(o.op,opds L (parts.map (·.2)))=(.build t parts.toArray,some vs)) (a:P.built t (zk (parts.map (·.1)) vs)=some cells.toArray:=by kernel_rfl):Rn P n C o L (.agg cells.toArray):=uY (congrArg (·.1) e) (congrArg (·.2) e) a
end
end Go.Wk
