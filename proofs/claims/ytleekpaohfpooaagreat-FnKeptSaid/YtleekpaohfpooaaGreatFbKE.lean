/- Steps that write memory of the call's own: make, literals, append, stores, parts of slices. -/
import Derived.Test.YtleekpaohfpooaaGreatFaKE
import Derived.DeepKeys4
import Derived.WideKeyArr
import Derived.Laws.StructEq
import Derived.WalkKit
import Derived.ProofKit
import Derived.OpenShut
import Derived.ShutString
import Derived.ChangeOld
import Derived.Below
import Derived.Lib.SmallJoins
import Derived.Deep.Slices
set_option linter.unusedVariables false
set_option linter.unusedSimpArgs false
open Option renaming bind → bC
open List renaming getElem?_eq_some_iff → hV, replicate → sh, length_append → yK, length_take → yP
namespace Go.Wk
open Go
abbrev Tch (m:Nat) (w w':World):Prop:=Fr (λb=>b<w.heap.size/\b+1≠m) w w'
theorem Tch.setRow (w:World) (g:Nat) (cs:Array Value):Tch (g+1) w (w.setRow g cs):=⟨rfl,rfl,rfl,by simp,λb hb=>setRow_other w g b cs (by have:=hb.2;omega)⟩
def setI {α:Type}(xs:List α) (i:Int) (v:α):Option (List α):=if 0<=i/\i<xs.length then some (xs.set i.toNat v) else none
theorem nV {α:Type}{xs ys:List α}{i:Int}{v:α}(h:setI xs i v=some ys):0<=i/\i<xs.length/\ys=xs.set i.toNat v/\ys.length=xs.length:=by
 unfold setI at h
 split at h
 · rename_i hh
   simp only[Option.some.injEq]at h
   subst h
   exact⟨hh.1,hh.2,rfl,by simp⟩
 · cases h
def mkS {α:Type}(bytes:Nat) (n:Int) (z:α):Option (List α):=if 0<=n/\n<=9223372036854775807/\bytes * n.toNat<=281474976710656 then some (sh n.toNat z) else none
def mkC {α:Type}(bytes:Nat) (n c:Int) (z:α):Option (List α):=if 0<=n/\n<=c/\c<=9223372036854775807/\bytes * c.toNat<=281474976710656 then some (sh n.toNat z) else none
theorem xO {α:Type}{bytes:Nat}{n c:Int}{z:α}{xs:List α}(h:mkC bytes n c z=some xs):0<=n/\n<=c/\c<=9223372036854775807/\bytes * c.toNat<=281474976710656/\xs=sh n.toNat z:=by
 unfold mkC at h
 split at h
 · rename_i hh
   simp only[Option.some.injEq]at h
   exact⟨hh.1,hh.2.1,hh.2.2.1,hh.2.2.2,h.symm⟩
 · cases h
theorem yn {α:Type}{bytes:Nat}{n:Int}{z:α}{xs:List α}(h:mkS bytes n z=some xs):mkC bytes n n z=some xs:=by
 unfold mkS at h
 unfold mkC
 simpa using h
def appS {α:Type}(bytes:Nat) (xs ys:List α):Option (List α):=if(xs.length+ys.length) * bytes<=140737488355328/\xs.length+ys.length<=9223372036854775807 then some (xs++ys) else none
theorem xo {α:Type}{bytes:Nat}{xs ys zs:List α}(h:appS bytes xs ys=some zs):(xs.length+ys.length) * bytes<=140737488355328/\xs.length+ys.length<=9223372036854775807/\zs=xs++ys:=by
 unfold appS at h
 split at h
 · rename_i hh
   simp only[Option.some.injEq]at h
   exact⟨hh.1,hh.2,h.symm⟩
 · cases h
def subS {α:Type}(xs:List α) (l h:Int):Option (List α):=if 0<=l/\l<=h/\h<=xs.length then some ((xs.take h.toNat).drop l.toNat) else none
theorem rN {α:Type}{xs ys:List α}{l h:Int}(e:subS xs l h=some ys):0<=l/\l<=h/\h<=xs.length/\ys=(xs.take h.toNat).drop l.toNat:=by
 unfold subS at e
 split at e
 · rename_i hh
   simp only[Option.some.injEq]at e
   exact⟨hh.1,hh.2.1,hh.2.2,e.symm⟩
 · cases e
theorem qm {zc:List Value}{k:Nat}(hk:zc.length=k) (h0:0<k):∀m,(madeCells zc.toArray (m * k)).toList=(sh m zc).flatten:=by
 intro m
 apply List.ext_getElem?
 intro j
 have hL:(madeCells zc.toArray (m * k)).toList[j]? =if j<m * k then some (zc.toArray[j % zc.toArray.size]!) else none:=by
  simp only[madeCells,Array.toList_map,Array.toList_range,List.getElem?_map,List.getElem?_range']
  split <;> simp_all
 rw[hL]
 clear hL
 induction m generalizing j with
 | zero=>simp
 | succ m ih=>
  rw[List.replicate_succ,List.flatten_cons]
  by_cases hj:j<k
  · rw[List.getElem?_append_left (by omega),if_pos (by rw[Nat.succ_mul];omega)]
    simp only[List.size_toArray,hk,Nat.mod_eq_of_lt hj]
    rw[getElem!_pos zc.toArray j (by simpa [hk] using hj)]
    simp[hk,hj]
  · have:=ih (j-k)
    rw[List.getElem?_append_right (by omega),hk,← this]
    simp only[List.size_toArray,hk]
    rw[show j % k=(j-k) % k from by rw[Nat.mod_eq_sub_mod (by omega)]]
    by_cases h1:j<(m+1) * k
    · rw[if_pos h1,if_pos (by rw[Nat.succ_mul]at h1;omega)]
    · rw[if_neg h1,if_neg (by rw[Nat.succ_mul]at h1;omega)]
theorem qo {zc:List Value}{k:Nat}(hk:zc.length=k) (h0:0<k){m c:Nat}(h:m<=c):(madeCells zc.toArray (c * k)).toList.take (m * k)=(sh m zc).flatten:=by
 have hr:sh c zc=sh m zc++sh (c-m) zc:=by rw[List.replicate_append_replicate,show m+(c-m)=c from by omega]
 rw[qm hk h0,hr,List.flatten_append,List.take_append]
 have hl:((sh m zc).flatten).length=m * k:=by simp[hk]
 rw[List.take_of_length_le (by omega),hl]
 simp
section
variable {P:Program}{n:Nat}{ops:Array Oper}{C:World->Prop}{N:Act->World->Prop}{r:List (Nat×Nat)}{L:Env}{κ:Col}{w:World}{i d:Nat}{o:Oper}
theorem WO.mk {α:Type}{E:Ep α}(q:Nat) (ho:ops[i]? =some o) (hg:gd ops L o=some true) (hd:o.dst=some d) (hb:Nat.blt d n=true){t T:TypeId}{x y:Operand}{m c:Int}{bytes:Nat}{z:α}{zv:Value}{zc:List Value}{xs:List α}{ti:TypeInfo}
 (hop:o.op= .makeSlice t x y) (hx:opd L x=some (.int .i64 m)) (hy:opd L y=some (.int .i64 c)) (ht:P.underlying t=some (.slice T)) (hi:P.info? T=some ti) (hz:ti.zero=some zv) (hs:ti.size=E.size) (hby:ti.bytes=bytes) (hzc:zv.cells=zc.toArray) (h0:Nat.blt 0 E.size=true)
 (hrel:∀F S w,E.rel F S w zc z) (hxs:mkC bytes m c z=some xs)
 (k:∀a c w' κ',Stp [] κ w κ' w'->Oc E T κ' w' q a c xs->C w'/\WO P n ops C N r ((d,.slice a xs.length c)::L) w'):WO P n ops C N ((i,1)::r) L w:=
 WO.l ho hg hd hb λa ha=>by
  have h0:=Nat.ble_eq.mp h0
  obtain⟨h1,h2,h3,h4,h5⟩:=xO hxs
  have hrun:=run_make (P:=P) w t T ti zv ht hi hz .i64 .i64 m c h1 h2 (by
   have h:((ti.bytes * c.toNat:Nat):Int)<=281474976710656:=by rw[hby];omega
   rw[Int.natCast_mul,Int.toNat_of_nonneg (by omega)]at h
   exact h) h3
  unfold Runs
  have:(execOp a.eval o).run P w= .ok (.value (.slice (some ⟨w.heap.size,0,none⟩) m.toNat c.toNat)) (w.alloc (.cells (madeCells zv.cells (c.toNat * ti.size)) T)):=by
   simp only[execOp,hop,ha.eval hx,ha.eval hy,Sem.run_bind,hrun,Result.andThen_ok,Sem.run_pure]
  rw[this]
  subst h5
  have hl:=E.len (hrel (λ_=>True) (λ_=>True) w)
  have hk:=k (some ⟨w.heap.size,0,none⟩) c.toNat _ _ (Stp.nw q (Ext.alloc w (.cells (madeCells zv.cells (c.toNat * ti.size)) T)))
   ⟨(sh m.toNat zc).flatten,⟨by simp[hl],.inr ⟨w.heap.size,0,_,rfl,heap_alloc_new w _,by simp;omega,by unfold maxLen;omega,by rw[size_madeCells,hs];omega,by
    rw[hzc,hs,List.drop_zero,List.length_replicate]
    exact qo hl (by omega) (by omega)⟩⟩,λb hb=>by
     have:b=w.heap.size:=by simpa [nb] using hb
     subst this
     exact⟨by simp,by rw[rY (Nat.le_refl _)];simp⟩,LstO.replicate (hrel _ _ _) _⟩
  rw[List.length_replicate]at hk
  exact hk
def rlc (κ:Col) (l:List Nat) (n i:Nat):Col:=λb=>bif Nat.blt b n then(bif nin l (κ b) then κ b else i) else i
theorem kw {l:List Nat}{m i b:Nat}(h:κ b∈l):rlc κ l m i b=i:=by
 unfold rlc
 rw[mR.2 h]
 cases Nat.blt b m <;> rfl
theorem ux {l:List Nat}{m i b:Nat}(h:m<=b):rlc κ l m i b=i:=by
 have:Nat.blt b m=false:=by
  cases e:Nat.blt b m with
  | false=>rfl
  | true=>have:=Nat.ble_eq.mp e;omega
 simp[rlc,this]
theorem rQ {l:List Nat}{m i b:Nat}(h:κ b∉l) (hb:b<m):rlc κ l m i b=κ b:=by
 unfold rlc
 rw[dJ.2 h]
 exact po (Nat.ble_eq.mpr hb)
theorem Stp.rl {w':World}(l:List Nat) (q:Nat) (e:Ext w w'):Stp l κ w (rlc κ l w.heap.size q) w':=⟨e.os,e.tape,e.output,e.size,λb hb hc=>⟨rQ hc hb,e.block b hb⟩⟩
theorem Stp.rlT {w':World}{m:Nat}(l:List Nat) (q:Nat) (e:Tch m w w') (hm:∀b,b+1=m->κ b∈l):Stp l κ w (rlc κ l w.heap.size q) w':=
 ⟨e.os,e.tape,e.output,e.size,λb hb hc=>⟨rQ hc hb,e.block b ⟨hb,λh=>hc (hm b h)⟩⟩⟩
theorem WO.blG {α:Type}{E:Ep α}(q:Nat) (l:List Nat) (ho:ops[i]? =some o) (hg:gd ops L o=some true) (hd:o.dst=some d) (hb:Nat.blt d n=true){t T:TypeId}{len:Nat}{parts:List (Nat×Operand)}{vs:List Value}{cells:List Value}{zv:Value}{ti:TypeInfo}{xs:List α}
 (hop:o.op= .buildSlice t len parts.toArray) (hv:opds L (parts.map (·.2))=some vs) (ht:P.underlying t=some (.slice T)) (hi:P.info? T=some ti) (hz:ti.zero=some zv) (hs:ti.size=E.size) (hsmall:Nat.ble (len * ti.size) 16777216=true) (hpos:Nat.blt 0 (len * ti.size)=true)
 (hp:List.zip (parts.map (·.1)) vs=(vs.zipIdx 0).map λx=>(x.2,x.1)) (hvl:vs.length=len) (hcells:(vs.flatMap λv=>v.cells.toList)=cells) (hlen:xs.length=len)
 (hsz:(vs.all λv=>Nat.beq v.cells.size E.size)=true) (h0:nin l 0=true) (hl:LstO E (Zl κ w [0]) w (Zl κ w l) cells xs)
 (k:∀a c w' κ',Stp l κ w κ' w'->Gst q κ w κ' w'->Oc E T κ' w' q a c xs->C w'/\WO P n ops C N r ((d,.slice a xs.length c)::L) w'):WO P n ops C N ((i,1)::r) L w:=
 WO.l ho hg hd hb λact ha=>by
  have hev:(parts.toArray.map λ(i,x)=>(i,act.eval x)).toList=List.zip (parts.map (·.1)) vs:=by
   have h1:(parts.map (·.2)).map act.eval=vs:=by simpa using ha.evals hv
   rw[← h1]
   clear hop hv hp h1
   induction parts with
   | nil=>simp
   | cons p r ih=>simpa using ih
  have h7:0<E.size:=by
   have h6:=Nat.ble_eq.mp hpos
   rcases Nat.eq_zero_or_pos E.size with h | h
   · rw[hs,h]at h6;simp at h6
   · exact h
  have hcl:cells.length=len * E.size:=by rw[hl.len,hlen]
  have hvs:∀v∈vs,v.cells.size=E.size:=λv hv=>Nat.eq_of_beq_eq_true (List.all_eq_true.1 hsz v hv)
  have hf:=Great.fill_whole h7 vs ((Array.range (len * E.size)).map (zv.cells[· % zv.cells.size]!)) hvs (by simp[hvl])
  rw[← hp,← hs,hcells]at hf
  unfold Runs
  have hrun:=run_buildSlice (P:=P) w t T len (parts.toArray.map λ(i,x)=>(i,act.eval x)) cells.toArray ti zv ht hi hz (by have:=Nat.ble_eq.mp hsmall;omega) (by have:=Nat.ble_eq.mp hpos;omega) (by rw[hev];exact hf)
  have:(execOp act.eval o).run P w= .ok (.value (.slice (some ⟨w.heap.size,0,none⟩) len len)) (w.alloc (.cells cells.toArray T)):=by
   simp only[execOp,hop,Sem.run_bind,hrun,Result.andThen_ok,Sem.run_pure]
  rw[this]
  subst hlen
  have hmax:xs.length<=maxLen:=by
   have h5:=Nat.ble_eq.mp hsmall
   have:=Nat.le_mul_of_pos_right xs.length (hs ▸ h7:0<ti.size)
   unfold maxLen;omega
  have e:=Ext.alloc w (.cells cells.toArray T)
  have hst:=Stp.rl (κ:=κ) l q e
  have hgs:Gst q κ w (rlc κ l w.heap.size q) (w.alloc (.cells cells.toArray T)):=⟨e.size,λb hb=>e.block b hb,λb hb=>by
   by_cases hc:κ b∈l
   · exact .inr (kw hc)
   · exact .inl (rQ hc hb)⟩
  refine k _ _ _ _ hst hgs ⟨cells,⟨hcl,.inr ⟨w.heap.size,0,_,rfl,heap_alloc_new w _,Nat.le_refl _,hmax,by simp[hcl],by rw[List.drop_zero];exact List.take_of_length_le (by rw[hcl];exact Nat.le_refl _)⟩⟩,λb hb=>?_,hl.st (Zl.st hst (nin1 h0)) λb hb=>⟨⟨⟨Nat.lt_of_lt_of_le hb.1 e.size,by rw[kw hb.2];simp⟩,λh=>?_⟩,e.block b hb.1⟩⟩
  · have:b=w.heap.size:=by simpa [nb] using hb
    subst this
    exact⟨by simp,by rw[ux (Nat.le_refl _)];simp⟩
  · have h1:b=w.heap.size:=by simpa [nb] using h
    have:=hb.1
    omega
theorem WO.bl {α:Type}{E:Ep α}(q:Nat) (l:List Nat) (ho:ops[i]? =some o) (hg:gd ops L o=some true) (hd:o.dst=some d) (hb:Nat.blt d n=true){t T:TypeId}{len:Nat}{parts:List (Nat×Operand)}{vs:List Value}{cells:List Value}{zv:Value}{ti:TypeInfo}{xs:List α}
 (hop:o.op= .buildSlice t len parts.toArray) (hv:opds L (parts.map (·.2))=some vs) (ht:P.underlying t=some (.slice T)) (hi:P.info? T=some ti) (hz:ti.zero=some zv) (hs:ti.size=E.size) (hsmall:Nat.ble (len * ti.size) 16777216=true) (hpos:Nat.blt 0 (len * ti.size)=true)
 (hp:List.zip (parts.map (·.1)) vs=(vs.zipIdx 0).map λx=>(x.2,x.1)) (hvl:vs.length=len) (hcells:(vs.flatMap λv=>v.cells.toList)=cells) (hlen:xs.length=len)
 (hsz:(vs.all λv=>Nat.beq v.cells.size E.size)=true) (h0:nin l 0=true) (hl:LstO E (Zl κ w [0]) w (Zl κ w l) cells xs)
 (k:∀a c w' κ',Stp l κ w κ' w'->Oc E T κ' w' q a c xs->C w'/\WO P n ops C N r ((d,.slice a xs.length c)::L) w'):WO P n ops C N ((i,1)::r) L w:=
 WO.blG q l ho hg hd hb hop hv ht hi hz hs hsmall hpos hp hvl hcells hlen hsz h0 hl λa c w' κ' s _ h=>k a c w' κ' s h
theorem WO.bl0 {α:Type}{E:Ep α}(q:Nat) (ho:ops[i]? =some o) (hg:gd ops L o=some true) (hd:o.dst=some d) (hb:Nat.blt d n=true){t T:TypeId}{ti:TypeInfo}
 (hop:o.op= .buildSlice t 0 #[]) (ht:P.underlying t=some (.slice T)) (hi:P.info? T=some ti) (hs:ti.size=E.size)
 (k:∀a c w' κ',Stp [] κ w κ' w'->Oc E T κ' w' q a c ([]:List α)->C w'/\WO P n ops C N r ((d,.slice a ([]:List α).length c)::L) w'):WO P n ops C N ((i,1)::r) L w:=
 WO.l ho hg hd hb λact ha=>by
  unfold Runs
  have:(execOp act.eval o).run P w= .ok (.value (.slice (some ⟨w.heap.size,0,none⟩) 0 0)) (w.alloc (.cells #[] T)):=by
   simp[execOp,hop,Instr.buildSlice,run_underlying ht,sizeOf,typeInfo,hi,Instr.fill,newRow,Array.range_zero']
  rw[this]
  exact k _ _ _ _ (Stp.nw q (Ext.alloc _ _)) ⟨[],⟨by simp,.inr ⟨w.heap.size,0,_,rfl,heap_alloc_new w _,Nat.le_refl _,by simp,by simp,by simp⟩⟩,λb hb=>by
   have:b=w.heap.size:=by simpa [nb] using hb
   subst this
   exact⟨by simp,by rw[rY (Nat.le_refl _)];simp⟩,rfl⟩
end
def SrcO {α:Type}(E:Ep α) (F S:Nat->Prop) (w:World) (a:Option Addr) (c:Nat) (xs:List α):Prop:=
 ∃cells,LstO E F w S cells xs/\(a=none->xs=[]/\c=0)/\∀ad,a=some ad->∀(j:Nat) u,cells[j]? =some u->w.cell? (ad.add j)=some u
theorem Ow.src {α:Type}{E:Ep α}{T:TypeId}{F S:Nat->Prop}{w:World}{a:Option Addr}{c:Nat}{xs:List α}(h:Ow E T F S w a c xs):SrcO E F S w a c xs:=by
 obtain⟨cells,h1,h2,h3⟩:=h
 refine⟨cells,h3.st (λb hb=>⟨hb,rfl⟩) (λb hb=>⟨hb.1,rfl⟩),λe=>?_,λad e j u hu=>?_⟩
 · rcases h1.2 with ⟨_,hn,hc⟩ | ⟨g,o,cur,e',_⟩
   · exact⟨List.eq_nil_of_length_eq_zero hn,hc⟩
   · rw[e]at e';cases e'
 · rcases h1.2 with ⟨e',_⟩ | ⟨g,o,cur,e',hg,_,_,_,h4⟩
   · rw[e']at e;cases e
   · rw[e']at e
     obtain rfl:=Option.some.inj e
     rw[← h4,List.getElem?_take]at hu
     split at hu
     · rw[addb,cell_of_row w g _ cur T (0,0) hg]
       rw[List.getElem?_drop]at hu
       simpa using hu
     · cases hu
theorem SrcO.no {α:Type}{E:Ep α}(hE:E.No){F F' S:Nat->Prop}{w:World}{a:Option Addr}{c:Nat}{xs:List α}(h:SrcO E F S w a c xs):SrcO E F' S w a c xs:=by
 obtain⟨cells,h1,h2⟩:=h
 exact⟨cells,h1.no hE,h2⟩
theorem p6 {α:Type}{E:Rp α}{S:Nat->Prop}{w:World}{E':Ep α}{F:Nat->Prop}(hE:∀cs x,E.rel S w cs x->E'.rel F (λ_=>False) w cs x) (hsz:E'.size=E.size) (ce:Nat->Option Value):∀(xs:List α) (k:Nat),
 (∀(i:Nat) x,xs[i]? =some x->∃cs:List Value,(∀(j:Nat) v,cs[j]? =some v->ce ((k+i) * E.size+j)=some v)/\E.rel S w cs x) ->
 ∃cells,LstO E' F w (λ_=>False) cells xs/\∀(j:Nat) u,cells[j]? =some u->ce (k * E.size+j)=some u
 | [],_,_=>⟨[],rfl,λj u h=>by simp at h⟩
 | x::r,k,h=>by
  obtain⟨cs,h1,h2⟩:=h 0 x rfl
  obtain⟨cells,h3,h4⟩:=p6 hE hsz ce r (k+1) λi y hy=>by
   obtain⟨c2,h5,h6⟩:=h (i+1) y (by simpa using hy)
   exact⟨c2,λj v hv=>by rw[show k+1+i=k+(i+1) from by omega];exact h5 j v hv,h6⟩
  refine⟨cs++cells,⟨cs,cells,λ_=>False,λ_=>False,rfl,λ_ h=>h.elim,λ_ h=>h,hE _ _ h2,h3⟩,λj u hu=>?_⟩
  have hl:=E.len h2
  by_cases hj:j<cs.length
  · rw[List.getElem?_append_left hj]at hu
    exact h1 j u hu
  · rw[List.getElem?_append_right (by omega)]at hu
    have:=h4 _ u hu
    rw[show k * E.size+j=(k+1) * E.size+(j-cs.length) from by rw[Nat.add_mul];omega]
    exact this
theorem Sl.srcG {α:Type}{E:Rp α}{S:Nat->Prop}{w:World}{E':Ep α}{F:Nat->Prop}{a:Option Addr}{c:Nat}{xs:List α}(hE:∀cs x,E.rel S w cs x->E'.rel F (λ_=>False) w cs x) (hsz:E'.size=E.size) (h:Sl E S w a c xs):SrcO E' F (λ_=>False) w a c xs:=by
 rcases h.2.2 with ⟨e,hc⟩ | ⟨b,o,e,_,hg⟩
 · subst e
   exact⟨[],rfl,λha=>⟨rfl,hc ha⟩,λ_ _ j u hu=>by simp at hu⟩
 · obtain⟨cells,h3,h4⟩:=p6 hE hsz (λj=>w.cell? ⟨b,o+j,none⟩) xs 0 λi x hx=>by
    obtain⟨cs,h5,h6⟩:=hg i x hx
    exact⟨cs,λj v hv=>by simpa [Nat.add_assoc] using h5 j v hv,h6⟩
   refine⟨cells,h3,λha=>(by rw[e]at ha;cases ha),λad ha j u hu=>?_⟩
   rw[e]at ha
   obtain rfl:=Option.some.inj ha
   have:=h4 j u hu
   rw[addb]
   simpa using this
theorem Sl.srcP {α:Type}{E:Ep α}(hE:E.Pu){S F:Nat->Prop}{w:World}{a:Option Addr}{c:Nat}{xs:List α}(h:Sl E.rp S w a c xs):SrcO E F (λ_=>False) w a c xs:=h.srcG (λ_ _ h=>hE h) E.rps.symm
theorem oB {P:Program}{w:World}(t ty e:TypeId) (i:TypeInfo) (ht:P.underlying t=some (.slice e)) (hi:P.info? e=some i) (a:Option Addr) (n c:Nat) (h:n<=c):
 (Builtin.append_ #[t,t] ty #[.slice a n c,.slice none 0 0]).run P w= .ok (.slice a n c) w:=by
 cases a with
 | none=>simp[Builtin.append_,run_underlying ht,sizeOf,typeInfo,hi,Builtin.lenOf,Builtin.firstCells,h]
 | some p=>simp[Builtin.append_,run_underlying ht,sizeOf,typeInfo,hi,Builtin.lenOf,Builtin.firstCells,h,storeCells]
theorem qt {P:Program}(w:World) (t ty e:TypeId) (i:TypeInfo) (ht:P.underlying t=some (.slice e)) (hi:P.info? e=some i)
 (g o sLen sCap:Nat) (cur:Array Value) (hg:w.heap[g]? =some (.cells cur e (0,0)))
 (a:Addr) (m c:Nat) (news:List Value) (hl:news.length=m * i.size) (hnews:∀(j:Nat) u,news[j]? =some u->w.cell? (a.add j)=some u) (h1:∀u∈news,u.oneCell'=true)
 (hroom:sLen+m<=sCap) (hfit:o+sLen * i.size+news.length<=cur.size):
 (Builtin.append_ #[t,t] ty #[.slice (some ⟨g,o,none⟩) sLen sCap,.slice (some a) m c]).run P w=
  .ok (.slice (some ⟨g,o,none⟩) (sLen+m) sCap) (w.setRow g (cur.toList.take (o+sLen * i.size)++news++cur.toList.drop (o+sLen * i.size+news.length)).toArray):=by
 have hf:=run_firstCells_some (P:=P) w i.size m a m c news hl hnews
 have hst:=run_storeCells_at P g (o+sLen * i.size) e news 0 cur w hg (by simpa using hfit) h1
 simp only[Nat.add_zero]at hst
 simp[Builtin.append_,run_underlying ht,sizeOf,typeInfo,hi,Builtin.lenOf,hroom,hf,addb,hst]
theorem wH {P:Program}{w:World}{t ty T:TypeId}{ti:TypeInfo}{zv:Value}{size bytes:Nat}(ht:P.underlying t=some (.slice T)) (hi:P.info? T=some ti) (hz:ti.zero=some zv) (hs:ti.size=size) (hby:ti.bytes=bytes) (hzs:zv.cells.size=size)
 {a:Option Addr} {k c:Nat} {olds:List Value} (hrow:OwR w T size a k c olds) {ay:Option Addr} {m cy:Nat} {news:List Value} (hl:news.length=m * size) (hnone:ay=none->m=0/\cy=0)
 (hc:∀ad,ay=some ad->∀(j:Nat) u,news[j]? =some u->w.cell? (ad.add j)=some u) (h1:∀u∈news,u.oneCell'=true) (hmax:k+m<=9223372036854775807) (hb:(k+m) * bytes<=140737488355328):
 ∃a' c' w',(Builtin.append_ #[t,t] ty #[.slice a k c,.slice ay m cy]).run P w= .ok (.slice a' (k+m) c') w'/\OwR w' T size a' (k+m) c' (olds++news)/\Tch (nb a) w w'/\(nb a'=nb a\/w.heap.size<nb a'):=by
 subst hs hby
 have hkc:k<=c:=by
  rcases hrow.2 with ⟨_,h2,h3⟩ | ⟨g,o,cur,_,_,h2,_⟩ <;> omega
 have hlen:(olds++news).length=(k+m) * ti.size:=by rw[yK,hrow.1,hl,Nat.add_mul]
 have hm63:k+m<=maxLen:=by unfold maxLen;omega
 have grown:∀(old:Nat),old<k+m ->
  OwR (w.drew.alloc (.cells (olds.toArray++news.toArray++Builtin.zeroCells zv.cells (grownCap w (k+m) old T-(k+m))) T)) T ti.size (some ⟨w.heap.size,0,none⟩) (k+m) (grownCap w (k+m) old T) (olds++news) /\
  Tch (nb a) w (w.drew.alloc (.cells (olds.toArray++news.toArray++Builtin.zeroCells zv.cells (grownCap w (k+m) old T-(k+m))) T)):=by
  intro old ho
  have hge:=grownCap_ge w (k+m) old T
  refine⟨⟨hlen,.inr ⟨w.heap.size,0,_,rfl,heap_alloc_new w.drew _,hge,grownCap_le_maxLen w (k+m) old T hm63,?_,?_⟩⟩,⟨rfl,rfl,rfl,by simp,λb hb=>heap_alloc_old w.drew _ hb.1⟩⟩
  · simp only[Array.size_append,List.size_toArray,size_zeroCells,hzs,hrow.1,hl,← Nat.add_mul]
    rw[show k+m+(grownCap w (k+m) old T-(k+m))=grownCap w (k+m) old T from by omega]
    omega
  · simp only[Array.toList_append,List.append_assoc,List.drop_zero]
    rw[← List.append_assoc,← hlen]
    exact List.take_left
 cases ay with
 | none=>
  obtain⟨rfl,rfl⟩:=hnone rfl
  have hn:news=[]:=List.eq_nil_of_length_eq_zero (by simpa using hl)
  subst hn
  exact⟨a,c,w,oB t ty T ti ht hi a k c hkc,by simpa using hrow,Fr.refl _ _,.inl rfl⟩
 | some ad=>
  rcases hrow.2 with ⟨rfl,rfl,rfl⟩ | ⟨g,o,cur,rfl,hg,_,hcm,hcs,htake⟩
  · have hx:olds=[]:=List.eq_nil_of_length_eq_zero (by simpa using hrow.1)
    subst hx
    by_cases hm:m=0
    · subst hm
      have hn:news=[]:=List.eq_nil_of_length_eq_zero (by simpa using hl)
      subst hn
      refine⟨none,0,w,?_,⟨by simp,.inl ⟨rfl,rfl,rfl⟩⟩,Fr.refl _ _,.inl rfl⟩
      simp[Builtin.append_,run_underlying ht,sizeOf,typeInfo,hi,Builtin.lenOf,Builtin.firstCells,loadCells,loadCellsFrom]
    · have hr:=run_append_nil (P:=P) w t ty T ti zv ht hi hz ad m cy news hl (hc ad rfl) (by omega) (by omega) (by have hb:=hb;simp only[Nat.zero_add]at hb;omega)
      have hgr:=grown 0 (by omega)
      simp only[Nat.zero_add,List.nil_append,Array.empty_append]at hgr ⊢
      exact⟨_,_,_,hr,hgr.1,hgr.2,.inr (by simp[nb])⟩
  · by_cases hroom:k+m<=c
    · have hmul:(k+m) * ti.size<=c * ti.size:=Nat.mul_le_mul_right _ hroom
      rw[Nat.add_mul]at hmul
      have hr:=qt (P:=P) w t ty T ti ht hi g o k c cur hg ad m cy news hl (hc ad rfl) h1 hroom (by omega)
      refine⟨_,_,_,hr,⟨hlen,.inr ⟨g,o,_,rfl,setRow_heap w g cur _ T _ hg,hroom,hcm,?_,?_⟩⟩,Tch.setRow w g _,.inl rfl⟩
      · simp only[List.size_toArray,yK,yP,List.length_drop,Array.length_toList]
        omega
      · rw[← htake]
        have hcl:cur.toList.length=cur.size:=by simp
        generalize cur.toList=cl at *
        simp only[]
        rw[List.append_assoc,List.drop_append,List.drop_take,yP,show o-min (o+k * ti.size) cl.length=0 from by omega,List.drop_zero,show o+k * ti.size-o=k * ti.size from by omega,← List.append_assoc]
        refine List.take_left' ?_
        simp only[yK,yP,List.length_drop,hl,Nat.add_mul]
        omega
    · have holds:∀(j:Nat) u,olds[j]? =some u->w.cell? ((⟨g,o,none⟩:Addr).add j)=some u:=λj u hu=>by
       rw[← htake,List.getElem?_take]at hu
       split at hu
       · rw[addb,cell_of_row w g _ cur T (0,0) hg]
         rw[List.getElem?_drop]at hu
         simpa using hu
       · cases hu
      have hr:=run_append_grow (P:=P) w t ty T ti zv ht hi hz ⟨g,o,none⟩ k c olds hrow.1 holds ad m cy news hl (hc ad rfl) (by omega) (by omega) (growslice_fits (by omega) hb)
      have hgr:=grown c (by omega)
      exact⟨_,_,_,hr,hgr.1,hgr.2,.inr (by simp[nb])⟩
section
variable {P:Program}{n:Nat}{ops:Array Oper}{C:World->Prop}{N:Act->World->Prop}{r:List (Nat×Nat)}{L:Env}{κ:Col}{w:World}{i d:Nat}{o:Oper}
theorem WO.app {α:Type}{E:Ep α}(q:Nat) (l:List Nat) (ho:ops[i]? =some o) (hg:gd ops L o=some true) (hd:o.dst=some d) (hb:Nat.blt d n=true){t T:TypeId}{x y:Operand}{bytes:Nat}{zv:Value}{ti:TypeInfo}
 {a ay:Option Addr} {c cy lx ly:Nat} {xs ys zs:List α} {Sy:Nat->Prop} (hop:o.op= .call { callee:= .builtin .append,args:= #[x,y],argTypes:= #[t,t] }) (hx:opd L x=some (.slice a lx c)) (hlx:lx=xs.length) (hy:opd L y=some (.slice ay ly cy)) (hly:ly=ys.length)
 (ht:P.underlying t=some (.slice T)) (hi:P.info? T=some ti) (hz:ti.zero=some zv) (hs:ti.size=E.size) (hby:ti.bytes=bytes) (hzs:zv.cells.size=E.size)
 (hown:Oc E T κ w q a c xs) (hsrc:SrcO E (Zl κ w [0]) Sy w ay cy ys) (hSy:∀b,Sy b->Zl κ w l b/\κ b≠q) (happ:appS bytes xs ys=some zs) (h0:nin (q::l) 0=true)
 (k:∀a' c' w' κ',Stp (q::l) κ w κ' w'->Oc E T κ' w' q a' c' zs->C w'/\WO P n ops C N r ((d,.slice a' zs.length c')::L) w'):WO P n ops C N ((i,1)::r) L w:=
 WO.l ho hg hd hb λact ha=>by
  obtain⟨cells,hrow,hbk,hlst⟩:=hown
  obtain⟨hb1,hb2,hzs'⟩:=xo happ
  obtain⟨news,hnl,hnone,hcell⟩:=hsrc
  subst hlx hly
  obtain⟨a',c',w',hrun,hrow',htch,hnb⟩:=wH (P:=P) (ty:=o.type) ht hi hz hs hby hzs hrow (ay:=ay) (cy:=cy) hnl.len (λe=>by obtain⟨h1,h2⟩:=hnone e;exact⟨by rw[h1];rfl,h2⟩) hcell hnl.one hb2 hb1
  unfold Runs
  have hex:(execOp act.eval o).run P w= .ok (.value (.slice a' (xs.length+ys.length) c')) w':=by
   simp[execOp,hop,ha.eval hx,ha.eval hy,resolve,invoke,builtin,hrun]
  rw[hex]
  have hlz:zs.length=xs.length+ys.length:=by rw[hzs',yK]
  have hst:Stp (q::l) κ w (rlc κ (q::l) w.heap.size q) w':=Stp.rlT _ _ htch λb hb=>by
   have:=(hbk b hb).2
   simp only[List.mem_cons,List.not_mem_nil,or_false]at this
   rw[this];simp
  have hk:=k a' c' w' _ hst ⟨cells++news,by rw[hlz];exact hrow',λb hb=>?_,?_⟩
  · rw[hlz]at hk;exact hk
  · refine⟨hrow'.lt hb,?_⟩
    rcases hnb with e | e
    · have h1:=(hbk b (by rw[← e];exact hb)).2
      simp only[List.mem_cons,List.not_mem_nil,or_false]at h1
      rw[kw (by rw[h1];simp)];simp
    · rw[ux (by omega)];simp
  · rw[hzs']
    have hne:∀b,Zl κ w (q::l) b->b+1≠nb a->(Zl (rlc κ (q::l) w.heap.size q) w' [q] b/\b+1≠nb a')/\w'.heap[b]? =w.heap[b]?:=λb hb hn=>by
     have h1:=htch.block b ⟨hb.1,hn⟩
     refine⟨⟨⟨Nat.lt_of_lt_of_le hb.1 htch.size,by rw[kw hb.2];simp⟩,λh=>?_⟩,h1⟩
     rcases hnb with e | e
     · exact hn (by rw[← e];exact h)
     · have:=hb.1;omega
    have hF:=Zl.st hst (nin1 h0)
    have hA:LstO E (Zl (rlc κ (q::l) w.heap.size q) w' [0]) w' (λb=>Zl κ w [q] b/\b+1≠nb a) cells xs:=hlst.st hF λb hb=>⟨hb,(hne b (Zl.mono (by simp) hb.1) hb.2).2⟩
    have hq:∀b,b+1=nb a->κ b=q:=λb hb=>by simpa using (hbk b hb).2
    have hB:LstO E (Zl (rlc κ (q::l) w.heap.size q) w' [0]) w' Sy news ys:=hnl.st hF λb hb=>⟨hb,(hne b (Zl.mono (λc hc=>List.mem_cons_of_mem _ hc) (hSy b hb).1) λh=>(hSy b hb).2 (hq b h)).2⟩
    refine LstO.append hB (λb hb=>⟨(hne b (Zl.mono (by simp) hb.1) hb.2).1,λh=>(hSy b h).2 ?_⟩) (λb hb=>(hne b (Zl.mono (λc hc=>List.mem_cons_of_mem _ hc) (hSy b hb).1) λh=>(hSy b hb).2 (hq b h)).1) hA
    simpa using hb.1.2
theorem bI {p:Nat->Prop}:∀b:Nat,(λ_=>False) b->p b:=λ_ h=>h.elim
theorem dE {j q:Nat}(h:Nat.beq j q=false):∀b,Zl κ w [j] b->Zl κ w [j] b/\κ b≠q:=λb hb=>⟨hb,λe=>by
 have h1:κ b=j:=by simpa using hb.2
 rw[← h1,e,Nat.beq_refl]at h;cases h⟩
theorem mi {t:TypeId}{g off:Nat}{T:TypeId}{cur:Array Value}{v:Value}{cs:List Value}{k:Nat}(hg:w.heap[g]? =some (.cells cur T (0,0))) (hz:∀w,(sizeOf t).run P w= .ok k w) (hcs:v.cells=cs.toArray) (hk:cs.length=k)
 (h1:∀u∈cs,u.oneCell'=true) (hfit:off+k<=cur.size):(Instr.storeAt t (.pointer (some ⟨g,off,none⟩)) v).run P w= .ok () (w.setRow g (cur.toList.take off++cs++cur.toList.drop (off+k)).toArray):=by
 subst hk
 have hst:=run_storeCells_at P g off T cs 0 cur w hg (by omega) h1
 simp only[Nat.add_zero]at hst
 simp[Instr.storeAt,Instr.sureAddr,storeVar,hz,hcs,hst]
theorem WO.stI {α:Type}{E:Ep α}(q:Nat) (l:List Nat) (ho:ops[i]? =some o) (hg:gd ops L o=some true) (hd:o.dst=none){t T:TypeId}{x y:Operand}{a:Option Addr}{c j sz:Nat}{xs zs:List α}{v:Value}{cs:List Value}{e:α}{ix:Int}
 (hop:o.op= .store t x y) (hx:opd L x=some (.pointer (some (aAt a j)))) (hj:j=ix.toNat * E.size) (hy:opd L y=some v) (hcs:v.cells=cs.toArray) (hz:∀w,(sizeOf t).run P w= .ok sz w) (hsz:sz=E.size) (hrel:E.rel (Zl κ w [0]) (Zl κ w l) w cs e) (hql:nin l q=true) (h0:nin (q::l) 0=true)
 (hown:Oc E T κ w q a c xs) (hset:setI xs ix e=some zs)
 (k:∀w' κ',Stp (q::l) κ w κ' w'->Oc E T κ' w' q a c zs->C w'/\WO P n ops C N r L w'):WO P n ops C N ((i,1)::r) L w:=
 WO.ln ho hg hd λact ha=>by
  subst hj hsz
  obtain⟨i0,i1,i2,i3⟩:=nV hset
  obtain⟨cells,hrow,hbk,hlst⟩:=hown
  rcases hrow.2 with ⟨rfl,h4,rfl⟩ | ⟨g,of,cur,rfl,hgg,hkc,hcm,hcsz,htake⟩
  · omega
  · have hit:ix.toNat<xs.length:=by omega
    have hmul:ix.toNat * E.size+E.size<=xs.length * E.size:=by
     have:=Nat.mul_le_mul_right E.size (show ix.toNat+1<=xs.length from hit)
     rwa [Nat.add_mul,Nat.one_mul]at this
    have hmul2:xs.length * E.size<=c * E.size:=Nat.mul_le_mul_right _ hkc
    have haddr:aAt (some ⟨g,of,none⟩) (ix.toNat * E.size)=⟨g,of+ix.toNat * E.size,none⟩:=addb _ _ _
    have hrun:=mi (P:=P) (t:=t) (off:=of+ix.toNat * E.size) hgg hz hcs (E.len hrel) (E.one hrel) (by omega)
    unfold Runs
    have:(execOp act.eval o).run P w= .ok .skip (w.setRow g (cur.toList.take (of+ix.toNat * E.size)++cs++cur.toList.drop (of+ix.toNat * E.size+E.size)).toArray):=by
     simp only[execOp,hop,ha.eval hx,ha.eval hy,haddr,Sem.run_bind,hrun,Result.andThen_ok,Sem.run_pure]
    rw[this]
    have hq:κ g=q:=by simpa using (hbk g rfl).2
    have ht:Tch (g+1) w (w.setRow g (cur.toList.take (of+ix.toNat * E.size)++cs++cur.toList.drop (of+ix.toNat * E.size+E.size)).toArray):=Tch.setRow w g _
    have hst:Stp (q::l) κ w (rlc κ (q::l) w.heap.size q) (w.setRow g (cur.toList.take (of+ix.toNat * E.size)++cs++cur.toList.drop (of+ix.toNat * E.size+E.size)).toArray):=Stp.rlT _ _ ht λb hb=>by
     have:b=g:=by omega
     rw[this,hq];simp
    refine k _ _ hst ⟨cells.take (ix.toNat * E.size)++cs++cells.drop (ix.toNat * E.size+E.size),?_,λb hb=>?_,?_⟩
    · have hcl:=hrow.1
      have hcs':=E.len hrel
      rw[i3]
      clear hset i2 hrun this hst ht k hx haddr hlst
      generalize ix.toNat * E.size=p at *
      refine⟨?_,.inr ⟨g,of,_,rfl,setRow_heap w g cur _ T _ hgg,by omega,hcm,?_,?_⟩⟩
      · simp only[yK,yP,List.length_drop,hcl,hcs'];omega
      · simp only[List.size_toArray,yK,yP,List.length_drop,Array.length_toList,hcs'];omega
      · rw[← htake]
        generalize xs.length * E.size=z at *
        have hlc:cur.toList.length=cur.size:=by simp
        generalize cur.toList=cl at *
        simp only[]
        rw[List.append_assoc,List.drop_append,List.drop_take,yP,show of-min (of+p) cl.length=0 from by omega,List.drop_zero,show of+p-of=p from by omega,List.take_append,yP,List.take_take,List.length_drop,
         show min z p=p from by omega,show min p (cl.length-of)=p from by omega,List.take_append,List.take_of_length_le (l:=cs) (by omega),List.take_drop,List.append_assoc,hcs',List.drop_take,show of+p-of=p from by omega,List.take_take,show min p z=p from by omega,List.drop_take,List.drop_drop,show of+(p+E.size)=of+p+E.size from by omega,show z-(p+E.size)=z-p-E.size from by omega]
    · have:b=g:=by simpa [nb] using hb
      subst this
      exact⟨by simpa using hrow.lt rfl,by rw[kw (by rw[hq];simp)];simp⟩
    · rw[i2]
      have hF:=Zl.st hst (nin1 h0)
      have hg1:∀b,κ b∈l->b≠g:=λb hb e=>by rw[e,hq]at hb;exact dJ.1 hql hb
      have hrel':E.rel (Zl (rlc κ (q::l) w.heap.size q) (w.setRow g (cur.toList.take (of+ix.toNat * E.size)++cs++cur.toList.drop (of+ix.toNat * E.size+E.size)).toArray) [0]) (Zl κ w l) (w.setRow g (cur.toList.take (of+ix.toNat * E.size)++cs++cur.toList.drop (of+ix.toNat * E.size+E.size)).toArray) cs e:=
       E.st hF (λb hb=>⟨hb,ht.block b ⟨hb.1,by have:=hg1 b hb.2;omega⟩⟩) hrel
      have hlst':=hlst.st (S':=λb=>Zl κ w [q] b/\b+1≠nb (some ⟨g,of,none⟩)) hF λb hb=>⟨hb,ht.block b ⟨hb.1.1,hb.2⟩⟩
      have hA:∀b,(Zl κ w [q] b/\b+1≠nb (some ⟨g,of,none⟩))->rlc κ (q::l) w.heap.size q b∈[q]:=λb hb=>by
       have h1:κ b=q:=by simpa using hb.1.2
       rw[kw (by rw[h1];simp)];simp
      have hB:∀b,Zl κ w l b->rlc κ (q::l) w.heap.size q b∈[q]:=λb hb=>by
       rw[kw (List.mem_cons_of_mem _ hb.2)];simp
      refine LstO.set hrel' (λb hb=>⟨⟨⟨by simpa using hb.1.1,hA b hb⟩,hb.2⟩,λh=>?_⟩) (λb hb=>⟨⟨by simpa using hb.1,hB b hb⟩,?_⟩) hlst' _ hit
      · have h1:κ b=q:=by simpa using hb.1.2
        exact dJ.1 hql (h1 ▸ h.2)
      · have:=hg1 b hb.2
        simp only[nb];omega
theorem WO.stB (q:Nat) (ho:ops[i]? =some o) (hg:gd ops L o=some true) (hd:o.dst=none){t T:TypeId}{x y:Operand}{b off sz:Nat}{v:Value}{cs vc cs':List Value}
 (hop:o.op= .store t x y) (hx:opd L x=some (.pointer (some ((⟨b,0,none⟩:Addr).add off)))) (hy:opd L y=some v) (hvc:v.cells=vc.toArray) (hz:∀w,(sizeOf t).run P w= .ok sz w) (hl:vc.length=sz) (h1:(vc.all λu=>u.oneCell')=true)
 (hb:Bc κ w q b T cs) (hfit:Nat.ble (off+sz) cs.length=true) (hcs':cs.take off++vc++cs.drop (off+sz)=cs')
 (k:∀w',Stp [q] κ w κ w'->Bc κ w' q b T cs'->C w'/\WO P n ops C N r L w'):WO P n ops C N ((i,1)::r) L w:=
 WO.ln ho hg hd λact ha=>by
  have haddr:(⟨b,0,none⟩:Addr).add off=⟨b,off,none⟩:=by rw[addb,Nat.zero_add]
  have hb':w.heap[b]? =some (.cells cs.toArray T (0,0)):=hb.bx
  have hrun:=mi (P:=P) (t:=t) (off:=off) hb' hz hvc hl (λu hu=>List.all_eq_true.1 h1 u hu) (by simpa using Nat.ble_eq.mp hfit)
  unfold Runs
  have:(execOp act.eval o).run P w= .ok .skip (w.setRow b cs'.toArray):=by
   simp only[execOp,hop,ha.eval hx,ha.eval hy,haddr,Sem.run_bind,hrun,Result.andThen_ok,Sem.run_pure,hcs']
  rw[this]
  exact k _ ⟨rfl,rfl,rfl,by simp,λg _ hg=>⟨rfl,setRow_other w b g _ λe=>hg (by rw[e,hb.col];simp)⟩⟩ ⟨setRow_heap w b _ _ T _ hb',hb.col⟩
theorem WO.stB0 (q:Nat) (ho:ops[i]? =some o) (hg:gd ops L o=some true) (hd:o.dst=none){t T:TypeId}{x y:Operand}{b sz:Nat}{v:Value}{cs vc:List Value}
 (hop:o.op= .store t x y) (hx:opd L x=some (.pointer (some ⟨b,0,none⟩))) (hy:opd L y=some v) (hvc:v.cells=vc.toArray) (hz:∀w,(sizeOf t).run P w= .ok sz w) (hl:vc.length=sz) (h1:(vc.all λu=>u.oneCell')=true)
 (hb:Bc κ w q b T cs) (hfit:cs.length=sz)
 (k:∀w',Stp [q] κ w κ w'->Bc κ w' q b T vc->C w'/\WO P n ops C N r L w'):WO P n ops C N ((i,1)::r) L w:=
 WO.stB q (off:=0) ho hg hd hop (by rw[addb];exact hx) hy hvc hz hl h1 hb (Nat.ble_eq.mpr (by omega)) (by simp[hfit]) k
end
def LstH {α:Type}(E:Ep α) (F:Nat->Prop) (w:World) (cs:List Value):Nat->(Nat->Prop)->List Value->List α->Prop
 | _,_,_,[]=>False
 | 0,S,cells,_::r=>∃c2,cells=cs++c2/\cs.length=E.size/\LstO E F w S c2 r
 | n+1,S,cells,x::r=>∃c1 c2,∃S1 S2:Nat->Prop,cells=c1++c2/\(∀b,S1 b->S b/\¬S2 b)/\(∀b,S2 b->S b)/\E.rel F S1 w c1 x/\LstH E F w cs n S2 c2 r
section
variable {α:Type}{E:Ep α}{F F':Nat->Prop}{w w':World}{cs:List Value}
theorem LstH.st (hF:∀b,F b->F' b/\w'.heap[b]? =w.heap[b]?):∀{n:Nat}{xs:List α}{S S':Nat->Prop}{cells:List Value},(∀b,S b->S' b/\w'.heap[b]? =w.heap[b]?)->LstH E F w cs n S cells xs->LstH E F' w' cs n S' cells xs
 | _,[],_,_,_,_,h=>by cases ‹Nat› <;> exact h.elim
 | 0,_::_,S,S',_,hS,⟨c2,e,h0,h⟩=>⟨c2,e,h0,h.st hF hS⟩
 | n+1,_::_,S,S',_,hS,⟨c1,c2,S1,S2,e,s1,s2,h1,h2⟩=>⟨c1,c2,S1,S2,e,λb hb=>⟨(hS b (s1 b hb).1).1,(s1 b hb).2⟩,λb hb=>(hS b (s2 b hb)).1,
  E.st hF (λb hb=>⟨hb,(hS b (s1 b hb).1).2⟩) h1,LstH.st hF (λb hb=>⟨hb,(hS b (s2 b hb)).2⟩) h2⟩
theorem LstO.take1:∀{n:Nat}{xs:List α}{S:Nat->Prop}{cells:List Value}{x:α},LstO E F w S cells xs->xs[n]? =some x ->
 ∃cs,∃S0 Sx:Nat->Prop,LstH E F w cs n S0 cells xs/\E.rel F Sx w cs x/\(∀b,S0 b->S b/\¬Sx b)/\(∀b,Sx b->S b)
 | n,[],_,_,_,_,h=>by simp at h
 | 0,y::r,S,_,x,⟨c1,c2,S1,S2,e,s1,s2,h1,h2⟩,h=>by
  simp only[List.getElem?_cons_zero,Option.some.injEq]at h
  subst h
  exact⟨c1,S2,S1,⟨c2,e,E.len h1,h2⟩,h1,λb hb=>⟨s2 b hb,λh=>(s1 b h).2 hb⟩,λb hb=>(s1 b hb).1⟩
 | n+1,y::r,S,_,x,⟨c1,c2,S1,S2,e,s1,s2,h1,h2⟩,h=>by
  obtain⟨cs,S0,Sx,h3,h4,h5,h6⟩:=h2.take1 (n:=n) (by simpa using h)
  refine⟨cs,λb=>S1 b\/S0 b,Sx,⟨c1,c2,S1,S0,e,λb hb=>⟨.inl hb,λh=>(s1 b hb).2 (h5 b h).1⟩,λb hb=> .inr hb,h1,h3⟩,h4,λb hb=>?_,λb hb=>s2 b (h6 b hb)⟩
  rcases hb with hb | hb
  · exact⟨(s1 b hb).1,λh=>(s1 b hb).2 (h6 b h)⟩
  · exact⟨s2 b (h5 b hb).1,(h5 b hb).2⟩
theorem LstH.put {y:α}{Sy:Nat->Prop}{cs':List Value}(hy:E.rel F Sy w cs' y):∀{n:Nat}{xs:List α}{S S':Nat->Prop}{cells:List Value},LstH E F w cs n S cells xs->(∀b,S b->S' b/\¬Sy b)->(∀b,Sy b->S' b) ->
 LstO E F w S' (cells.take (n * E.size)++cs'++cells.drop (n * E.size+E.size)) (xs.set n y)
 | _,[],_,_,_,h,_,_=>by cases ‹Nat› <;> exact h.elim
 | 0,x::r,S,S',_,⟨c2,e,h0,h⟩,hs,hsy=>by
  refine⟨cs',c2,Sy,S,?_,λb hb=>⟨hsy b hb,λh=>(hs b h).2 hb⟩,λb hb=>(hs b hb).1,hy,h⟩
  rw[e]
  simp[← h0]
 | n+1,x::r,S,S',_,⟨c1,c2,S1,S2,e,s1,s2,h1,h2⟩,hs,hsy=>by
  have hl:=E.len h1
  refine⟨c1,_,S1,λb=>S2 b\/Sy b,?_,λb hb=>⟨(hs b (s1 b hb).1).1,λh=>h.elim (s1 b hb).2 (hs b (s1 b hb).1).2⟩,λb hb=>hb.elim (λh=>(hs b (s2 b h)).1) (hsy b),h1,
   LstH.put hy h2 (λb hb=>⟨.inl hb,(hs b (s2 b hb)).2⟩) (λb hb=> .inr hb)⟩
  rw[e,show(n+1) * E.size=c1.length+n * E.size from by rw[hl,Nat.add_mul];omega,List.take_append,List.take_of_length_le (by omega),show c1.length+n * E.size-c1.length=n * E.size from by omega,
   show c1.length+n * E.size+E.size=c1.length+(n * E.size+E.size) from by omega,List.drop_append,List.drop_of_length_le (l:=c1) (by omega)]
  simp[List.append_assoc]
theorem LstH.cs_at:∀{n:Nat}{xs:List α}{S:Nat->Prop}{cells:List Value},LstH E F w cs n S cells xs->cs.length=E.size/\n<xs.length/\cells.take (n * E.size)++cs++cells.drop (n * E.size+E.size)=cells
 | _,[],_,_,h=>by cases ‹Nat› <;> exact h.elim
 | 0,x::r,S,_,⟨c2,e,h0,h⟩=>by
  refine⟨h0,by simp,?_⟩
  rw[e];simp[← h0]
 | n+1,x::r,S,_,⟨c1,c2,S1,S2,e,s1,s2,h1,h2⟩=>by
  have hl:=E.len h1
  obtain⟨i1,i2,i3⟩:=h2.cs_at
  refine⟨i1,by simpa using i2,?_⟩
  rw[e,show(n+1) * E.size=c1.length+n * E.size from by rw[hl,Nat.add_mul];omega,List.take_append,List.take_of_length_le (l:=c1) (by omega),show c1.length+n * E.size-c1.length=n * E.size from by omega,
   show c1.length+n * E.size+E.size=c1.length+(n * E.size+E.size) from by omega,List.drop_append,List.drop_of_length_le (l:=c1) (by omega)]
  simp only[List.nil_append,List.append_assoc,show c1.length+(n * E.size+E.size)-c1.length=n * E.size+E.size from by omega]
  congr 1
  rw[← List.append_assoc];exact i3
end
def Hole {α:Type}(E:Ep α) (T:TypeId) (κ:Col) (w:World) (i:Nat) (a:Option Addr) (c:Nat) (xs:List α) (ix:Int) (cs:List Value):Prop:=
 0<=ix/\∃cells,OwR w T E.size a xs.length c cells/\(∀b,b+1=nb a->Zl κ w [i] b)/\LstH E (Zl κ w [0]) w cs ix.toNat (λb=>Zl κ w [i] b/\b+1≠nb a) cells xs
section
variable {α:Type}{E:Ep α}{T:TypeId}{X:List Nat}{κ κ':Col}{w w':World}{i j:Nat}{a:Option Addr}{c:Nat}{xs:List α}{ix:Int}{cs:List Value}
theorem Hole.stp (h:Hole E T κ w i a c xs ix cs) (s:Stp X κ w κ' w') (h0:nin X 0=true:=by exact rfl) (hi:nin X i=true:=by exact rfl):Hole E T κ' w' i a c xs ix cs:=by
 obtain⟨h1,cells,h2,h3,h4⟩:=h
 have hS:=Zl.st s (nin1 hi)
 exact⟨h1,cells,h2.same λb hb=>(hS b (h3 b hb)).2,λb hb=>(hS b (h3 b hb)).1,h4.st (Zl.st s (nin1 h0)) λb hb=>⟨⟨(hS b hb.1).1,hb.2⟩,(hS b hb.1).2⟩⟩
theorem Stp.ag {l:List Nat}(s:Stp X κ w κ' w') (h:apt l X=true):Ag l κ w w':=λb hb=>(s.keep b hb.1 (ro h _ hb.2)).2
theorem Ag.refl (l:List Nat) (κ:Col) (w:World):Ag l κ w w:=λ_ _=>rfl
theorem Ow.borrowE {x:α}(h:Oc E T κ w i a c xs) (hx:idx xs ix=some x) (j:Nat) (hj:Nat.beq i j=false) (h0:Nat.beq 0 i=false):
 ∃κ' cs,Stp [i] κ w κ' w/\E.rel (Zl κ' w [0]) (Zl κ' w [j]) w cs x/\Hole E T κ' w i a c xs ix cs/\∀(k:Nat) v,cs[k]? =some v->w.cell? ((aAt a (ix.toNat * E.size)).add k)=some v:=by
 classical
 obtain⟨cells,h1,h2,h3⟩:=h
 obtain⟨i0,i1,i2⟩:=ff hx
 obtain⟨cs,S0,Sx,h4,h5,h6,h7⟩:=h3.take1 i2
 have hij:i≠j:=λe=>by rw[e,Nat.beq_refl]at hj;cases hj
 have h0i:(0:Nat)≠i:=λe=>by rw[← e]at h0;cases h0
 let κ':Col:=λb=>if Sx b then j else κ b
 have hx':∀b,Sx b->κ' b=j:=λb hb=>if_pos hb
 have hn:∀b,¬Sx b->κ' b=κ b:=λb hb=>if_neg hb
 have hF:∀b,Zl κ w [0] b->Zl κ' w [0] b/\w.heap[b]? =w.heap[b]?:=λb hb=>by
  have hb0:κ b=0:=by simpa using hb.2
  have:¬Sx b:=λh=>by
   have h8:κ b=i:=by simpa using (h7 b h).1.2
   omega
  exact⟨⟨hb.1,by rw[hn b this];exact hb.2⟩,rfl⟩
 refine⟨κ',cs,⟨rfl,rfl,rfl,Nat.le_refl _,λb _ hc=>⟨hn b λh=>hc (h7 b h).1.2,rfl⟩⟩,E.st hF (λb hb=>⟨⟨(h7 b hb).1.1,by rw[hx' b hb];simp⟩,rfl⟩) h5,⟨i0,cells,h1,λb hb=>?_,h4.st hF λb hb=>?_⟩,?_⟩
 · have h8:=h2 b hb
   have:¬Sx b:=λh=>(h7 b h).2 hb
   exact⟨h8.1,by rw[hn b this];exact h8.2⟩
 · have h8:=(h6 b hb).1
   exact⟨⟨⟨h8.1.1,by rw[hn b (h6 b hb).2];exact h8.1.2⟩,h8.2⟩,rfl⟩
 · intro k v hv
   obtain⟨j1,j2,j3⟩:=h4.cs_at
   rcases h1.2 with ⟨_,hn,_⟩ | ⟨g,o,cur,rfl,hg,hnc,hc,hsz,htk⟩
   · omega
   · show w.cell? (((⟨g,o,none⟩:Addr).add _).add k)=some v
     rw[addb,addb,cell_of_row w g _ cur T (0,0) hg]
     have hk:=(hV.1 hv).1
     have hm:ix.toNat * E.size+E.size<=xs.length * E.size:=by
      have:=Nat.mul_le_mul_right E.size (show ix.toNat+1<=xs.length from j2)
      rwa [Nat.add_mul,Nat.one_mul]at this
     have h9:cells[ix.toNat * E.size+k]? =some v:=by
      have hl:(cells.take (ix.toNat * E.size)).length=ix.toNat * E.size:=by rw[yP,h1.1];omega
      rw[← j3,List.append_assoc,List.getElem?_append_right (by omega),hl,List.getElem?_append_left (by omega),show ix.toNat * E.size+k-ix.toNat * E.size=k from by omega]
      exact hv
     rw[← htk,List.getElem?_take]at h9
     split at h9
     · rw[List.getElem?_drop]at h9
       simpa [Nat.add_assoc] using h9
     · cases h9
theorem Ow.borrow {α:Type}{E:Ep α}{Te:TypeId}{xs:List (List α)}{x:List α}{a':Option Addr}{c':Nat}(h:Oc (Ep.own E Te) T κ w i a c xs) (hx:idx xs ix=some x) (hc:w.cell? (aAt a (ix.toNat * 1))=some (.slice a' x.length c')) (j:Nat) (hj:Nat.beq i j=false) (h0:Nat.beq 0 i=false):
 ∃κ',Stp [i] κ w κ' w/\Oc E Te κ' w j a' c' x/\Hole (Ep.own E Te) T κ' w i a c xs ix [.slice a' x.length c']:=by
 obtain⟨κ',cs,h1,⟨a2,c2,e,h2⟩,h3,h4⟩:=h.borrowE hx j hj h0
 subst e
 have h5:=h4 0 _ rfl
 have hs:(Ep.own E Te).size=1:=rfl
 rw[hs]at h5
 have e0:(aAt a (ix.toNat * 1)).add 0=aAt a (ix.toNat * 1):=by
  unfold Addr.add;split <;> simp_all
 rw[e0,hc]at h5
 simp only[Option.some.injEq,Value.slice.injEq,true_and]at h5
 obtain⟨rfl,rfl⟩:=h5
 exact⟨κ',h1,h2,h3⟩
end
section
variable {P:Program}{n:Nat}{ops:Array Oper}{C:World->Prop}{N:Act->World->Prop}{r:List (Nat×Nat)}{L:Env}{κ:Col}{w:World}{i d:Nat}{o:Oper}
theorem WO.stH {α:Type}{E:Ep α}(q:Nat) (l:List Nat) (ho:ops[i]? =some o) (hg:gd ops L o=some true) (hd:o.dst=none){t T:TypeId}{x y:Operand}{a:Option Addr}{c j sz:Nat}{xs zs:List α}{v:Value}{cs cs0:List Value}{e:α}{ix:Int}
 (hop:o.op= .store t x y) (hx:opd L x=some (.pointer (some (aAt a j)))) (hj:j=ix.toNat * E.size) (hy:opd L y=some v) (hcs:v.cells=cs.toArray) (hz:∀w,(sizeOf t).run P w= .ok sz w) (hsz:sz=E.size) (hrel:E.rel (Zl κ w [0]) (Zl κ w l) w cs e) (hql:nin l q=true) (h0:nin (q::l) 0=true)
 (hown:Hole E T κ w q a c xs ix cs0) (hset:setI xs ix e=some zs)
 (k:∀w' κ',Stp (q::l) κ w κ' w'->Oc E T κ' w' q a c zs->C w'/\WO P n ops C N r L w'):WO P n ops C N ((i,1)::r) L w:=
 WO.ln ho hg hd λact ha=>by
  subst hj hsz
  obtain⟨i0,i1,i2,i3⟩:=nV hset
  obtain⟨_,cells,hrow,hbk,hlst⟩:=hown
  rcases hrow.2 with ⟨rfl,h4,rfl⟩ | ⟨g,of,cur,rfl,hgg,hkc,hcm,hcsz,htake⟩
  · omega
  · have hit:ix.toNat<xs.length:=by omega
    have hmul:ix.toNat * E.size+E.size<=xs.length * E.size:=by
     have:=Nat.mul_le_mul_right E.size (show ix.toNat+1<=xs.length from hit)
     rwa [Nat.add_mul,Nat.one_mul]at this
    have hmul2:xs.length * E.size<=c * E.size:=Nat.mul_le_mul_right _ hkc
    have haddr:aAt (some ⟨g,of,none⟩) (ix.toNat * E.size)=⟨g,of+ix.toNat * E.size,none⟩:=addb _ _ _
    have hrun:=mi (P:=P) (t:=t) (off:=of+ix.toNat * E.size) hgg hz hcs (E.len hrel) (E.one hrel) (by omega)
    unfold Runs
    have:(execOp act.eval o).run P w= .ok .skip (w.setRow g (cur.toList.take (of+ix.toNat * E.size)++cs++cur.toList.drop (of+ix.toNat * E.size+E.size)).toArray):=by
     simp only[execOp,hop,ha.eval hx,ha.eval hy,haddr,Sem.run_bind,hrun,Result.andThen_ok,Sem.run_pure]
    rw[this]
    have hq:κ g=q:=by simpa using (hbk g rfl).2
    have ht:Tch (g+1) w (w.setRow g (cur.toList.take (of+ix.toNat * E.size)++cs++cur.toList.drop (of+ix.toNat * E.size+E.size)).toArray):=Tch.setRow w g _
    have hst:Stp (q::l) κ w (rlc κ (q::l) w.heap.size q) (w.setRow g (cur.toList.take (of+ix.toNat * E.size)++cs++cur.toList.drop (of+ix.toNat * E.size+E.size)).toArray):=Stp.rlT _ _ ht λb hb=>by
     have:b=g:=by omega
     rw[this,hq];simp
    refine k _ _ hst ⟨cells.take (ix.toNat * E.size)++cs++cells.drop (ix.toNat * E.size+E.size),?_,λb hb=>?_,?_⟩
    · have hcl:=hrow.1
      have hcs':=E.len hrel
      rw[i3]
      clear hset i2 hrun this hst ht k hx haddr hlst
      generalize ix.toNat * E.size=p at *
      refine⟨?_,.inr ⟨g,of,_,rfl,setRow_heap w g cur _ T _ hgg,by omega,hcm,?_,?_⟩⟩
      · simp only[yK,yP,List.length_drop,hcl,hcs'];omega
      · simp only[List.size_toArray,yK,yP,List.length_drop,Array.length_toList,hcs'];omega
      · rw[← htake]
        generalize xs.length * E.size=z at *
        have hlc:cur.toList.length=cur.size:=by simp
        generalize cur.toList=cl at *
        simp only[]
        rw[List.append_assoc,List.drop_append,List.drop_take,yP,show of-min (of+p) cl.length=0 from by omega,List.drop_zero,show of+p-of=p from by omega,List.take_append,yP,List.take_take,List.length_drop,
         show min z p=p from by omega,show min p (cl.length-of)=p from by omega,List.take_append,List.take_of_length_le (l:=cs) (by omega),List.take_drop,List.append_assoc,hcs',List.drop_take,show of+p-of=p from by omega,List.take_take,show min p z=p from by omega,List.drop_take,List.drop_drop,show of+(p+E.size)=of+p+E.size from by omega,show z-(p+E.size)=z-p-E.size from by omega]
    · have:b=g:=by simpa [nb] using hb
      subst this
      exact⟨by simpa using hrow.lt rfl,by rw[kw (by rw[hq];simp)];simp⟩
    · rw[i2]
      have hF:=Zl.st hst (nin1 h0)
      have hg1:∀b,κ b∈l->b≠g:=λb hb e=>by rw[e,hq]at hb;exact dJ.1 hql hb
      have hrel':=E.st (S':=Zl κ w l) hF (λb hb=>⟨hb,ht.block b ⟨hb.1,by have:=hg1 b hb.2;omega⟩⟩) hrel
      have hlst':=hlst.st (S':=λb=>Zl κ w [q] b/\b+1≠nb (some ⟨g,of,none⟩)) hF λb hb=>⟨hb,ht.block b ⟨hb.1.1,hb.2⟩⟩
      have hA:∀b,(Zl κ w [q] b/\b+1≠nb (some ⟨g,of,none⟩))->rlc κ (q::l) w.heap.size q b∈[q]:=λb hb=>by
       have h1:κ b=q:=by simpa using hb.1.2
       rw[kw (by rw[h1];simp)];simp
      have hB:∀b,Zl κ w l b->rlc κ (q::l) w.heap.size q b∈[q]:=λb hb=>by
       rw[kw (List.mem_cons_of_mem _ hb.2)];simp
      refine LstH.put hrel' hlst' (λb hb=>⟨⟨⟨by simpa using hb.1.1,hA b hb⟩,hb.2⟩,λh=>?_⟩) (λb hb=>⟨⟨by simpa using hb.1,hB b hb⟩,?_⟩)
      · have h1:κ b=q:=by simpa using hb.1.2
        exact dJ.1 hql (h1 ▸ h.2)
      · have:=hg1 b hb.2
        simp only[nb];omega
end
section
variable {P:Program}{n:Nat}{ops:Array Oper}{C:World->Prop}{N:Act->World->Prop}{r:List (Nat×Nat)}{L:Env}{κ:Col}{w:World}{i d:Nat}{o:Oper}
end
section
variable {P:Program}{n:Nat}{C:World->Prop}{o:Oper}{L:Env}
def subA (a:Option Addr) (c l k:Nat):Option Addr:=if c=l then a else a.map (·.add (l * k))
theorem tX {w:World}{t e:TypeId}{a:Option Addr}{len c sz:Nat}{l h:Int}{lo hi:Option Value}{k1 k2:IntKind}(hu:∀w,(underlying t).run P w= .ok (.slice e) w) (hz:∀w,(sizeOf e).run P w= .ok sz w)
 (hlo:lo=none/\l=0\/lo=some (.int k1 l)) (hhi:hi=none/\h=len\/hi=some (.int k2 h)) (h0:0<=l) (h1:l<=h) (h2:h<=c):
 (Instr.sliceAt t (.slice a len c) lo hi none).run P w= .ok (.slice (subA a c l.toNat sz) (h.toNat-l.toNat) (c-l.toNat)) w:=by
 have e3:l<=(h.toNat:Int):=by omega
 unfold subA
 rcases hlo with ⟨rfl,rfl⟩ | rfl <;> rcases hhi with ⟨rfl,rfl⟩ | rfl
 · simp[Instr.sliceAt,Instr.slice,Instr.sliceBounds,hu,hz]
 · simp[Instr.sliceAt,Instr.slice,Instr.sliceBounds,Instr.sliceBound,asIntOf,hu,hz,h1,h2]
 · simp[Instr.sliceAt,Instr.slice,Instr.sliceBounds,Instr.sliceBound,asIntOf,hu,hz,h0,h1]
 · have h3:0<=h:=by omega
   simp[Instr.sliceAt,Instr.slice,Instr.sliceBounds,Instr.sliceBound,asIntOf,hu,hz,h0,h3,h2,e3]
   intro hh;omega
theorem kN {α:Type}{xs ys:List α}{t e:TypeId}{x:Operand}{lo hi:Option Operand}{a:Option Addr}{len c sz:Nat}{l h:Int}{k1 k2:IntKind}(hu:∀w,(underlying t).run P w= .ok (.slice e) w) (hz:∀w,(sizeOf e).run P w= .ok sz w)
 (hlo:lo=none/\l=0\/∃y,lo=some y/\opd L y=some (.int k1 l)) (hhi:hi=none/\h=xs.length\/∃y,hi=some y/\opd L y=some (.int k2 h)) (hs:subS xs l h=some ys) (hc:xs.length<=c)
 (ho:o.op= .slice t x lo hi none) (hx:opd L x=some (.slice a len c)) (hl:len=xs.length):Rn P n C o L (.slice (subA a c l.toNat sz) ys.length (c-l.toNat)):=λb w ha _=>by
 obtain⟨h0,h1,h2,h3⟩:=rN hs
 subst hl
 have hrun:=tX (P:=P) (w:=w) (a:=a) (len:=xs.length) (c:=c) (lo:=lo.map b.eval) (hi:=hi.map b.eval) (k1:=k1) (k2:=k2) hu hz
  (hlo.imp (λ⟨e,h⟩=>⟨by rw[e];rfl,h⟩) λ⟨y,e,h⟩=>by rw[e];simp[ha.eval h]) (hhi.imp (λ⟨e,h⟩=>⟨by rw[e];rfl,h⟩) λ⟨y,e,h⟩=>by rw[e];simp[ha.eval h]) h0 h1 (by omega)
 have hlen:ys.length=h.toNat-l.toNat:=by rw[h3];simp;omega
 rw[hlen]
 simp[execOp,ho,ha.eval hx,hrun]
end
section
variable {α:Type}{S F:Nat->Prop}{w:World}{a:Option Addr}{c:Nat}{xs ys:List α}{l h:Int}
theorem Sl.sub {E:Rp α}(hs:Sl E S w a c xs) (e:subS xs l h=some ys):Sl E S w (subA a c l.toNat E.size) (c-l.toNat) ys:=by
 obtain⟨h0,h1,h2,h3⟩:=rN e
 obtain⟨i1,i2,i3⟩:=hs
 have hlen:ys.length=h.toNat-l.toNat:=by rw[h3];simp;omega
 refine⟨by omega,by omega,?_⟩
 by_cases hy:ys=[]
 · refine .inl ⟨hy,λha=>?_⟩
   unfold subA at ha
   split at ha
   · omega
   · rcases i3 with ⟨_,hc⟩ | ⟨b,o,e1,_⟩
     · cases a with
       | none=>have:=hc rfl;omega
       | some p=>cases ha
     · rw[e1]at ha;cases ha
 · right
   have hpos:0<ys.length:=List.length_pos_iff.2 hy
   rcases i3 with ⟨e1,_⟩ | ⟨b,o,e1,hb,hg⟩
   · subst e1;simp at h2;omega
   · refine⟨b,o+l.toNat * E.size,?_,hb,λi x hx=>?_⟩
     · unfold subA
       rw[if_neg (by omega),e1]
       simp[addb]
     · rw[h3,List.getElem?_drop,List.getElem?_take]at hx
       split at hx
       · obtain⟨cs,h4,h5⟩:=hg _ _ hx
         refine⟨cs,λj v hv=>?_,h5⟩
         have:=h4 j v hv
         rwa [show o+l.toNat * E.size+i * E.size+j=o+(l.toNat+i) * E.size+j from by rw[Nat.add_mul];omega]
       · cases hx
theorem Ow.sub {E:Ep α}{T:TypeId}(hs:Ow E T F S w a c xs) (e:subS xs l h=some ys):Ow E T F S w (subA a c l.toNat E.size) (c-l.toNat) ys:=by
 obtain⟨h0,h1,h2,h3⟩:=rN e
 obtain⟨cells,⟨i1,i2⟩,hb,hl⟩:=hs
 have hlen:ys.length=h.toNat-l.toNat:=by rw[h3];simp;omega
 have hnb:nb (subA a c l.toNat E.size)=nb a:=by
  unfold subA
  split
  · rfl
  · cases a with
    | none=>rfl
    | some p=>simp only[Option.map_some,nb];unfold Addr.add;split <;> rfl
 refine⟨(cells.take (h.toNat * E.size)).drop (l.toNat * E.size),⟨?_,?_⟩,λb hb'=>hb b (by rw[← hnb];exact hb'),?_⟩
 · have hm:h.toNat * E.size<=xs.length * E.size:=Nat.mul_le_mul_right _ (by omega)
   rw[hlen,List.length_drop,yP,i1,Nat.min_eq_left hm,Nat.sub_mul]
 · rcases i2 with ⟨rfl,hn,rfl⟩ | ⟨g,o,cur,rfl,hg,hnc,hcm,hsz,htk⟩
   · refine .inl ⟨?_,by omega,by omega⟩
     unfold subA;split <;> rfl
   · by_cases hcl:c=l.toNat
     · refine .inr ⟨g,o,cur,by simp[subA,hcl],hg,by omega,by omega,by rw[hcl];simp;omega,?_⟩
       rw[show ys.length=0 from by omega,Nat.zero_mul,List.take_zero,eq_comm,List.drop_eq_nil_iff,yP]
       have:h.toNat=l.toNat:=by omega
       rw[this];omega
     · have h4:l.toNat * E.size<=c * E.size:=Nat.mul_le_mul_right _ (by omega)
       refine .inr ⟨g,o+l.toNat * E.size,cur,by simp[subA,hcl,addb],hg,by omega,by omega,by rw[Nat.sub_mul];omega,?_⟩
       have hm:h.toNat * E.size<=xs.length * E.size:=Nat.mul_le_mul_right _ (by omega)
       have hm2:l.toNat * E.size<=h.toNat * E.size:=Nat.mul_le_mul_right _ (by omega)
       rw[hlen,Nat.sub_mul,← htk,List.take_take,Nat.min_eq_left hm,List.drop_take,List.drop_drop]
 · rw[h3,hnb]
   exact(hl.take h.toNat).drop l.toNat
end
end Go.Wk
set_option linter.unusedVariables false
set_option linter.unusedSimpArgs false
namespace Go.Wk
open Go
def lpK {ρ σ:Type}(next:σ->Option (ρ⊕σ)):ρ⊕(σ⊕σ)->Option (ρ⊕σ)
 | .inl r=>some (.inl r)
 | .inr (.inl s)=>some (.inr s)
 | .inr (.inr s)=>next s
theorem nZ {ρ σ:Type}(next:σ->Option (ρ⊕σ)) (s:σ):lpK next (.inr (.inr s))=next s:=rfl
def aft {ρ σ α:Type}(fr:ρ->α) (fs:σ->α):ρ⊕σ->α
 | .inl r=>fr r
 | .inr s=>fs s
theorem wO {ρ σ α:Type}(fr:ρ->α) (fs:σ->α) (r:ρ):aft fr fs (.inl r)=fr r:=rfl
theorem bJ {ρ σ α:Type}(fr:ρ->α) (fs:σ->α) (s:σ):aft fr fs (.inr s)=fs s:=rfl
def cntM {ρ σ:Type}(f:Int->σ->Option (ρ⊕(σ⊕σ))):Nat->Int->σ->Option (ρ⊕σ)
 | 0,_,s=>some (.inr s)
 | k+1,j,s=>bC (f j s) (lpK (cntM f k (j+1)))
def ca {ρ σ:Type}(f:σ->Option (ρ⊕(σ⊕σ))):Nat->σ->Option (ρ⊕σ)
 | 0,_=>none
 | k+1,s=>bC (f s) (lpK (ca f k))
def nz (z:Int):Option Unit:=if z=0 then none else some ()
theorem yt {z:Int}{u:Unit}(h:nz z=some u):¬z=0:=by unfold nz at h;split at h <;> simp_all
def nn (z:Int):Option Unit:=if z<0 then none else some ()
theorem uv {z:Int}{u:Unit}(h:nn z=some u):¬z<0:=by
 unfold nn at h
 split at h
 · cases h
 · assumption
def rng (z:Int):Option Unit:=if z<=9223372036854775807 then some () else none
theorem jo {z:Int}{u:Unit}(h:rng z=some u):z<=9223372036854775807:=by
 unfold rng at h
 split at h
 · assumption
 · cases h
theorem wr1 {v N:Int}(h0:0<=v) (h1:v<N) (h2:N<=9223372036854775807):IntKind.wrap .i64 (v+1)=v+1:=by
 rw[IntKind.wrap_i64];omega
theorem bT {α:Type}(x:α):∃o,some x=some o:=⟨x,rfl⟩
end Go.Wk
set_option linter.unusedVariables false
set_option linter.unusedSimpArgs false
namespace Go.Wk
open Go
section
variable {K V:Type} [DecidableEq K]
end
def Mx {K V:Type}(wf:K->Bool) (kf:K->Value) (vf:V->Value) (w:World) (b:Nat) (xs:List (K×V)):Prop:=
 ∃es clock,w.heap[b]? =some (.map es clock)/\es.toList.map (λe=>(e.key,e.val))=xs.map (λp=>(kf p.1,vf p.2))/\(∀p∈xs,wf p.1=true)/\(xs.map (·.1)).Nodup
structure Mc {K V:Type} (wf:K->Bool) (kf:K->Value) (vf:V->Value) (κ:Col) (w:World) (i:Nat) (b:Nat) (xs:List (K×V)):Prop where
 mx:Mx wf kf vf w b xs
 col:κ b=i
section
variable {K V:Type}{wf:K->Bool}{kf:K->Value}{vf:V->Value}{X:List Nat}{κ κ' κ1:Col}{w w' w1:World}{i j b:Nat}{xs:List (K×V)}
theorem Mx.lt (h:Mx wf kf vf w b xs):b<w.heap.size:=by
 obtain⟨es,clock,h1,_⟩:=h
 exact(Array.getElem?_eq_some_iff.1 h1).1
theorem Mx.of (h:Mx wf kf vf w b xs) (e:w'.heap[b]? =w.heap[b]?):Mx wf kf vf w' b xs:=by
 obtain⟨es,clock,h1,h2⟩:=h
 exact⟨es,clock,e.trans h1,h2⟩
theorem Mc.stp (h:Mc wf kf vf κ w i b xs) (s:Stp X κ w κ' w') (h0:nin X 0=true:=by exact rfl) (hi:nin X i=true:=by exact rfl):Mc wf kf vf κ' w' i b xs:=by
 obtain⟨h1,h2⟩:=s.keep b h.mx.lt (by rw[h.col];exact dJ.1 hi)
 exact⟨h.mx.of h2,h1.trans h.col⟩
theorem Mc.map (h:Mc wf kf vf κ w i b xs) (g:Nat->Nat) (h0:g 0=0) (hi:g i=j):Mc wf kf vf (λb=>g (κ b)) w j b xs:=⟨h.mx,by show g (κ b)=j;rw[h.col,hi]⟩
end
section
variable {P:Program}{n:Nat}{ops:Array Oper}{C:World->Prop}{N:Act->World->Prop}{r:List (Nat×Nat)}{L:Env}{κ:Col}{w:World}{i d:Nat}{o:Oper}
variable {K V:Type} [DecidableEq K] {wf:K->Bool}{kf:K->Value}{vf:V->Value}{xs zs:List (K×V)}{b:Nat}{t kt et:TypeId}{k:K}{v z:V}
end
section
variable {P:Program}{n:Nat}{C:World->Prop}{L:Env}{o:Oper}
theorem qL {t:TypeId}{k:IntKind}{p q:Int}(u:∀w,(underlying t).run P w= .ok (.int k) w) (d:Nat) (w:World):(Op.equalIn (d+1) t (.int k p) (.int k q)).run P w= .ok (p==q) w:=by
 simp[Op.equalIn,u]
theorem sX {t e:TypeId}{k:IntKind}{p1 p2 q1 q2:Int}(ht:∀w,(underlying t).run P w= .ok (.array 2 e) w) (a1:∀w,(isAgg e).run P w= .ok false w) (u1:∀w,(underlying e).run P w= .ok (.int k) w) (z1:∀w,(sizeOf e).run P w= .ok 1 w) (w:World):
 (Op.equal t (.agg #[.int k p1,.int k p2]) (.agg #[.int k q1,.int k q2])).run P w= .ok ((p1==q1)&&(p2==q2)) w:=by
 unfold Op.equal
 obtain⟨d,hd⟩:∃d,Op.maxDepth=(d+1)+1:=⟨9998,rfl⟩
 rw[hd]
 have x1:∀p q:Int,(part e #[.int k p,.int k q] 0).run P w= .ok (.int k p) w:=λp q=>by simp[part,a1]
 have x2:∀p q:Int,(part e #[.int k p,.int k q] 1).run P w= .ok (.int k q) w:=λp q=>by simp[part,a1]
 rw[Op.equalIn]
 simp only[Sem.run_bind,ht,Result.andThen_ok,z1,Std.Legacy.Range.forIn_eq_forIn_range',Std.Legacy.Range.size]
 rw[show List.range' 0 ((2-0+1-1) / 1) 1=[0,1] from rfl]
 simp only[List.forIn_cons,List.forIn_nil,Sem.run_bind,Nat.mul_one,x1,x2,Result.andThen_ok,qL u1]
 cases e1:(p1==q1) <;> cases e2:(p2==q2) <;> simp[Result.andThen,qL u1,x2,e2]
theorem wo {x y:Operand}{t t' e:TypeId}{k:IntKind}{p1 p2 q1 q2:Int}(ht:∀w,(underlying t).run P w= .ok (.array 2 e) w) (hg:P.eqGuardType P.depth t=false) (a1:∀w,(isAgg e).run P w= .ok false w) (u1:∀w,(underlying e).run P w= .ok (.int k) w) (z1:∀w,(sizeOf e).run P w= .ok 1 w)
 (ho:o.op= .binOp .eql t x y t') (hx:opd L x=some (.agg #[.int k p1,.int k p2])) (hy:opd L y=some (.agg #[.int k q1,.int k q2])):Rn P n C o L (.bool ((p1==q1)&&(p2==q2))):=λa w ha _=>by
 simp only[execOp,ho,ha.eval hx,ha.eval hy,eqGuard,binOp,Sem.run_bind,run_program,Sem.run_pure,Result.andThen_ok,hg,sX ht a1 u1 z1]
 simp[Result.andThen,hg]
end
end Go.Wk
set_option linter.unusedVariables false
set_option linter.unusedSimpArgs false
namespace Go.Wk
open Go Go.ChangeShapes Go.WideShapes Go.ChangeAt Go.RowKit
theorem vT {w:World}{b o:Nat}{v:Value}(h:w.cell? ⟨b,o,none⟩=some v):b<w.heap.size:=by
 by_cases hb:b<w.heap.size
 · exact hb
 · have:w.heap[b]? =none:=by simp;omega
   simp[World.cell?,this]at h
def Opn {α:Type}(P:Program) (T:TypeId) (E:Rp α) (ok:α->Prop):Prop:=
 ∀{H:Type} (enc:TypeId×Value->H) (w:World) (n:Nat) (cs:List Value) (y:DataW H×List MemPlace),DataW.trod enc P w 0 (λ_=>true) true n T cs=some y->∃x,E.rel (Zl (λ_=>0) w [0,0]) w cs x/\ok x
def I64 (n:Int):Prop:= -9223372036854775808<=n/\n<=9223372036854775807
def U8 (n:Int):Prop:=0<=n/\n<=255
def okS {α:Type}(p:α->Prop) (xs:List α):Prop:=(∀x∈xs,p x)/\xs.length<=maxLen
section
variable {P:Program}{T e:TypeId}
theorem xx (ht:P.underlying T=some (.int .u8)):Opn P T (Rp.int .u8) U8:=λenc w n cs y h=>by
 obtain⟨m,rfl,_,hw⟩:=DataW.trod_int ht h
 refine⟨m,rfl,?_⟩
 simp[Lit.wf,IntKind.min,IntKind.max,IntKind.bits,IntKind.signed]at hw
 unfold U8
 omega
theorem oL {α:Type}{p:Nat->α->Prop}:∀n:Nat,(∀i,i<n->∃x,p i x)->∃xs:List α,xs.length=n/\∀i x,xs[i]? =some x->p i x
 | 0,_=>⟨[],rfl,λi x h=>by cases i <;> cases h⟩
 | n+1,h=>by
  obtain⟨xs,h1,h2⟩:=oL n λi hi=>h i (by omega)
  obtain⟨x,hx⟩:=h n (by omega)
  refine⟨xs++[x],by simp[h1],λi y hy=>?_⟩
  by_cases hi:i<n
  · rw[List.getElem?_append_left (by omega)]at hy
    exact h2 i y hy
  · have hin:i=n:=by
     have:=(hV.1 hy).1
     simp at this;omega
    subst hin
    rw[List.getElem?_append_right (by omega),h1]at hy
    simp at hy
    subst hy
    exact hx
theorem xC {α:Type}{E:Rp α}{ok:α->Prop}(ht:P.underlying T=some (.slice e)) (hc:P.cellsOf e=E.size) (hp:Nat.ble 1 E.size=true) (h:Opn P e E ok):Opn P T (Rp.sl E) (okS ok):=λenc w n cs y hy=>by
 rcases Go.Deep.open_slice ht hy with ⟨rfl,_⟩ | ⟨a,len,cap,m,n',D,Pl,rfl,hb,hl,hm,hmm,_,hx⟩
 · exact⟨[],⟨none,0,rfl,Sl.nil⟩,by simp,by simp⟩
 · have hmc:m=cap:=by simpa using hmm
   obtain⟨xs,h1,h2⟩:=oL (p:=λi x=>ok x/\∃cs':List Value,cs'.length=E.size/\(∀j,j<E.size->w.cell? ((a.add (i * E.size)).add j)=cs'[j]?)/\E.rel (Zl (λ_=>0) w [0,0]) w cs' x) len λi hi=>by
    obtain⟨cs',h3,h4⟩:=hx i (by omega)
    obtain⟨x,h5,h6⟩:=h enc w n' cs' _ h4
    rw[hc]at h3
    obtain⟨_,h7,h8⟩:=World.cells?_some h3
    exact⟨x,h6,cs',h7,h8,h5⟩
   refine⟨xs,⟨some a,cap,by rw[h1],by omega,hm,?_⟩,λx hx=>?_,by omega⟩
   · by_cases h0:xs=[]
     · exact .inl ⟨h0,λh=>by cases h⟩
     · right
       have hp:=Nat.ble_eq.mp hp
       have hlen:0<xs.length:=List.length_pos_iff.2 h0
       obtain⟨b,o,s⟩:=a
       have hsp:∀i x,xs[i]? =some x->∃cs':List Value,E.rel (Zl (λ_=>0) w [0,0]) w cs' x/\∀j v,cs'[j]? =some v->w.cell? ((⟨b,o,s⟩:Addr).add (i * E.size+j))=some v:=λi x hx=>by
        obtain⟨_,cs',h7,h8,h5⟩:=h2 i x hx
        refine⟨cs',h5,λj v hv=>?_⟩
        have hj:=(hV.1 hv).1
        have:=h8 j (by omega)
        rw[Go.Deep.add_add]at this
        rw[this];exact hv
       have hs0:s=none:=by
        obtain⟨_,cs',h7,h8,h5⟩:=h2 0 xs[0] (by simp[hlen])
        have h9:=h8 0 (by omega)
        rw[Nat.zero_mul,Go.Deep.add_add]at h9
        have:cs'[0]? =some cs'[0]:=by simp
        rw[this]at h9
        have:=World.cell?_spot h9
        simpa [Addr.add] using this
       subst hs0
       have hadd:∀k,(⟨b,o,none⟩:Addr).add k=⟨b,o+k,none⟩:=λk=>by unfold Addr.add;split <;> simp_all
       refine⟨b,o,rfl,⟨?_,by simp⟩,λi x hx=>?_⟩
       · obtain⟨_,cs',h7,h8,h5⟩:=h2 0 xs[0] (by simp[hlen])
         have h9:=h8 0 (by omega)
         rw[Nat.zero_mul,Go.Deep.add_add,hadd]at h9
         have:cs'[0]? =some cs'[0]:=by simp
         rw[this]at h9
         exact vT h9
       · obtain⟨cs',h5,h6⟩:=hsp i x hx
         refine⟨cs',λj v hv=>?_,h5⟩
         have:=h6 j v hv
         rw[hadd]at this
         rw[show o+i * E.size+j=o+(i * E.size+j) from by omega]
         exact this
   · obtain⟨i,hi⟩:=List.getElem?_of_mem hx
     exact(h2 i x hi).1
theorem wP {α:Type}{E:Rp α}{ok:α->Prop}{H:Type}{enc:TypeId×Value->H}{w:World}{v:Value}{d:DataW H}{ps:List MemPlace}(h:Opn P T E ok) (hd:DataW.Trod enc P w 0 (λ_=>true) true T v d ps):
 ∃x,E.rel (Zl (λ_=>0) w [0,0]) w v.cells.toList x/\ok x:=by
 obtain⟨n,hn⟩:=hd
 exact h enc w n _ _ hn
end
end Go.Wk
set_option linter.unusedVariables false
set_option linter.unusedSimpArgs false
namespace Go.Wk
open Go
section
variable {α β γ:Type}{E:Ep α}{E1:Ep β}{E2:Ep γ}{T T1 T2:TypeId}{κ:Col}{w:World}{i:Nat}{a a1 a2:Option Addr}{c c1 c2:Nat}{xs:List α}{ix:Int}
end
section
variable {P:Program}{n:Nat}{ops:Array Oper}{C:World->Prop}{N:Act->World->Prop}{r:List (Nat×Nat)}{L:Env}{κ:Col}{w:World}{i d:Nat}{o:Oper}
variable {K V:Type} [DecidableEq K] {wf:K->Bool}{kf:K->Value}{vf:V->Value}{xs zs:List (K×V)}{b:Nat}{t kt et:TypeId}{k:K}{v z:V}
end
theorem Bc.fzz {κ κ':Col}{w:World}{i b:Nat}{T:TypeId}{cs:List Value}(z:∀b,Zl κ w [0,i] b->Zl κ' w [0,0] b/\w.heap[b]? =w.heap[b]?) (h:Bc κ w i b T cs):Bc κ' w 0 b T cs:=
 ⟨h.bx,by have:=(z b ⟨h.bx.lt,by rw[h.col];simp⟩).1.2;simpa using this⟩
-- comparison with nil of what is not empty
theorem Sl.addr {α:Type}{E:Rp α}{S:Nat->Prop}{w:World}{a:Option Addr}{c:Nat}{xs:List α}(h:Sl E S w a c xs) (hn:xs≠[]):∃p,a=some p:=by
 rcases h.2.2 with ⟨e,_⟩ | ⟨b,o,e,_⟩
 · exact absurd e hn
 · exact⟨_,e⟩
section nilcmp
variable {P:Program}{n:Nat}{C:World->Prop}{L:Env}{o:Oper}{x y:Operand}{t t' e:TypeId}{a:Option Addr}{m c:Nat}(ht:∀w,(underlying t).run P w= .ok (.slice e) w) (hs:∃p,a=some p) (hx:opd L x=some (.slice a m c)) (hy:opd L y=some (.slice none 0 0))
include ht hs hx hy
end nilcmp
section dyn
variable {P:Program}{n:Nat}{C:World->Prop}{L:Env}{o:Oper}
theorem qO {xs:List Int}{y:Int}{x ix:Operand}{t e:TypeId}{p:Addr}{len sz:Nat}{k:IntKind}{i:Int}(h:idx xs i=some y) (hl:xs.length=len) (ht:∀w,(underlying t).run P w= .ok (.array len e) w) (hz:∀w,(sizeOf e).run P w= .ok sz w) (ho:o.op= .indexAddr t x ix)
 (hx:opd L x=some (.pointer (some p))) (hi:opd L ix=some (.int k i)):Rn P n C o L (.pointer (some (p.add (i.toNat * sz)))):=by
 obtain⟨h0,h1,_⟩:=ff h
 exact oz ht hz ho hx hi (by simp only[Bool.and_eq_true,decide_eq_true_eq];omega)
theorem Bc.ldD {κ:Col}{w:World}{q b:Nat}{T:TypeId}{cs:List Value}{xs:List Int}{y i:Int}{k:IntKind}(h:Bc κ w q b T cs){p:Addr}(off:Nat) (hcs:(cs.drop off).take xs.length=xs.map (Value.int k)) (hx:idx xs i=some y) (hp:p=(⟨b,off,none⟩:Addr).add (i.toNat * 1)):∀w',Ag [q] κ w w'->w'.cell? p=some (.int k y):=λw' hw'=>by
 obtain⟨h0,h1,h2⟩:=ff hx
 have:=h.lds (p:=⟨b,off,none⟩) off xs.length rfl w' hw' (i.toNat * 1) (.int k y) (by
  rw[hcs,List.getElem?_map,Nat.mul_one]
  rw[h2];rfl)
 rw[hp];exact this
end dyn
theorem vj {P:Program}{n:Nat}{C:World->Prop}{o:Oper}{L:Env}{x:Operand}{t:TypeId}{i:Nat}{fs:Array Field}{f:Field}{cs:List Value}{v:Value}(ht:∀w,(underlying t).run P w= .ok (.struct fs) w) (hf:fs[i]? =some f) (ha:∀w,(isAgg f.type).run P w= .ok false w)
 (ho:o.op= .field t x i) (hx:opd L x=some (.agg cs.toArray)) (hv:cs[f.offset]? =some v):Rn P n C o L v:=λa w ha' _=>by
 simp[execOp,ho,ha'.eval hx,Instr.field,ht,hf,asAgg,part,ha,hv]
section
variable {T:TypeId}{κ:Col}{w:World}{i:Nat}{a:Option Addr}{c:Nat}
theorem Ow.gZS {β:Type}{E:Rp β}{xs:List β}{x:β}{ix:Int}(h:Oc (Ep.fz E) T κ w i a c xs) (hx:idx xs ix=some x):
 ∃cs:List Value,E.rel (Zl κ w [0,0]) w cs x/\∀w',Ag [0,i] κ w w'->∀(j:Nat) v,cs[j]? =some v->w'.cell? ((aAt a (ix.toNat * E.size)).add j)=some v:=by
 obtain⟨cells,h1,h2,h3⟩:=h
 obtain⟨i0,i1,i2⟩:=ff hx
 obtain⟨cs,h4,h5⟩:=h3.get _ _ i2
 refine⟨cs,E.st (λb hb=>⟨Zl.mono (by simp) hb,rfl⟩) h5,λw' hw' j v hv=>?_⟩
 rcases h1.2 with ⟨_,hn,_⟩ | ⟨g,o,cur,rfl,hg,hnc,hc,hsz,htk⟩
 · omega
 · have h6:=h4 j v hv
   rw[← htk,List.getElem?_take]at h6
   split at h6
   · have hb:w'.heap[g]? =w.heap[g]?:=hw' g (Zl.mono (by simp) (h2 g rfl))
     show w'.cell? (((⟨g,o,none⟩:Addr).add _).add _)=_
     rw[Addr.add_add,cell_of_row w' g _ cur T (0,0) (hb.trans hg)]
     rw[List.getElem?_drop]at h6
     have he:(Ep.fz E).size=E.size:=rfl
     rw[he]at h6
     simpa [Nat.add_assoc] using h6
   · cases h6
end
end Go.Wk
set_option linter.unusedVariables false
namespace Go.Wk
open Go
theorem R {α:Type}{a:α}:a=a:=rfl
theorem Ob {α β:Type}{o:Option α}{f:α->Option β}{r:β}{G:Prop}(h:bC o f=some r) (k:∀x,o=some x->f x=some r->G):G:=by
 obtain⟨x,h1,h2⟩:=Option.bind_eq_some_iff.mp h
 exact k x h1 h2
theorem JT {α:Type}{A B:Option α}{r:Option α}{G:Prop}(k:A=r->G) (h:(bif true then A else B)=r):G:=k h
theorem JF {α:Type}{A B:Option α}{r:Option α}{G:Prop}(k:B=r->G) (h:(bif false then A else B)=r):G:=k h
theorem Tv {p:Prop}(h:p):True/\p:=⟨trivial,h⟩
theorem yI {ρ σ β:Type}{f:ρ->Option β}{g:σ->Option β}{s:σ}{r:Option β}(h:aft f g (.inr s)=r):g s=r:=h
theorem yL {ρ σ β:Type}{f:ρ->Option β}{g:σ->Option β}{s:ρ}{r:Option β}(h:aft f g (.inl s)=r):f s=r:=h
def kin:List Nat->Nat->List (Nat×Nat)
 | [],_=>[]
 | k::r,i=>(i,k)::kin r (i+1)
theorem WC.ri {P:Program}{n:Nat}{ops:Array Oper}{Q:Exit->Act->World->Prop}{L:Env}{w:World}{id:Nat}(ks:List Nat) (hB:(kin ks 0).map (·.1)=List.range ops.size) (h:WO P n ops (λ_=>True) (λa w=>Q .normal a w) (kin ks 0) L w):WC P n (.region id ops false) Q L w:=WC.rs (kin ks 0) hB h
theorem Kn.mm {n:Nat}{L:Env}{a:Act}(h:Kn n L a):∀{L':Env},L'.map (λp=>look L p.1)=L'.map (λp=>some p.2)->Kn n L' a
 | [],_=>h.nil
 | (t,v)::r,e=>by
  simp only[List.map_cons,List.cons.injEq]at e
  exact h.more (h.mm e.2) e.1
theorem KM {n:Nat}{L L':Env}(e:L'.map (λp=>look L p.1)=L'.map (λp=>some p.2)):∀a:Act,Kn n L a->Kn n L' a:=λa ha=>ha.mm e
theorem KN {n:Nat}{L:Env}:∀a:Act,Kn n L a->Kn n [] a:=λa ha=>ha.nil
theorem BI {α β:Type}{o:Option α}{f:α->Option β}{r:β}(h:bC o f=some r):∃x,o=some x/\f x=some r:=Option.bind_eq_some_iff.mp h
theorem tv:True:=True.intro
abbrev E6:Ep Int:=Ep.int .i64
abbrev vi (x:Int):Value:= .int .i64 x
abbrev Pvb (κ:Col) (w:World) (r:Bool):Value->World->Prop:=λv w'=>∃(κ':Col),v= .bool r/\Ent κ w κ' w'
abbrev Pvi (κ:Col) (w:World) (r:Int):Value->World->Prop:=λv w'=>∃(κ':Col),v=vi r/\Ent κ w κ' w'
abbrev Pvs {α:Type}(E:Ep α) (T:TypeId) (κ:Col) (w:World) (r:List α):Value->World->Prop:=λv w'=>∃(κ':Col) (ra0:Option Addr) (ru0:Nat),v= .slice ra0 r.length ru0/\Ent κ w κ' w'/\Oc E T κ' w' 2 ra0 ru0 r
abbrev Mk (κ:Col):Col:=λb=>mp [] 0 (κ b)
theorem mp00 (i:Nat):mp [] 0 i=0:=by unfold mp;cases Nat.beq i 0 <;> rfl
theorem Sl.mz {α:Type}{E:Rp α}{κ:Col}{w:World}{i:Nat}{a:Option Addr}{c:Nat}{xs:List α}(h:Rd E κ w i a c xs):Rd E (Mk κ) w 0 a c xs:=h.map (mp [] 0) rfl (mp00 i)
theorem Stp.r0 {X:List Nat}{κ:Col}{w:World}:Stp X κ w κ w:=(Stp.refl κ w).wk rfl
theorem T3 {X0 X1 X2:List Nat}{k0 k1 k2 k3:Col}{w0 w1 w2 w3:World}(h0:Stp X0 k0 w0 k1 w1) (h1:Stp X1 k1 w1 k2 w2) (h2:Stp X2 k2 w2 k3 w3):Stp (X0++(X1++X2)) k0 w0 k3 w3:=h0.tr (h1.tr h2)
theorem T4 {X0 X1 X2 X3:List Nat}{k0 k1 k2 k3 k4:Col}{w0 w1 w2 w3 w4:World}(h0:Stp X0 k0 w0 k1 w1) (h1:Stp X1 k1 w1 k2 w2) (h2:Stp X2 k2 w2 k3 w3) (h3:Stp X3 k3 w3 k4 w4):Stp (X0++(X1++(X2++X3))) k0 w0 k4 w4:=h0.tr (h1.tr (h2.tr h3))
theorem T5 {X0 X1 X2 X3 X4:List Nat}{k0 k1 k2 k3 k4 k5:Col}{w0 w1 w2 w3 w4 w5:World}(h0:Stp X0 k0 w0 k1 w1) (h1:Stp X1 k1 w1 k2 w2) (h2:Stp X2 k2 w2 k3 w3) (h3:Stp X3 k3 w3 k4 w4) (h4:Stp X4 k4 w4 k5 w5):Stp (X0++(X1++(X2++(X3++X4)))) k0 w0 k5 w5:=h0.tr (h1.tr (h2.tr (h3.tr h4)))
theorem T6 {X0 X1 X2 X3 X4 X5:List Nat}{k0 k1 k2 k3 k4 k5 k6:Col}{w0 w1 w2 w3 w4 w5 w6:World}(h0:Stp X0 k0 w0 k1 w1) (h1:Stp X1 k1 w1 k2 w2) (h2:Stp X2 k2 w2 k3 w3) (h3:Stp X3 k3 w3 k4 w4) (h4:Stp X4 k4 w4 k5 w5) (h5:Stp X5 k5 w5 k6 w6):Stp (X0++(X1++(X2++(X3++(X4++X5))))) k0 w0 k6 w6:=h0.tr (h1.tr (h2.tr (h3.tr (h4.tr h5))))
theorem T7 {X0 X1 X2 X3 X4 X5 X6:List Nat}{k0 k1 k2 k3 k4 k5 k6 k7:Col}{w0 w1 w2 w3 w4 w5 w6 w7:World}(h0:Stp X0 k0 w0 k1 w1) (h1:Stp X1 k1 w1 k2 w2) (h2:Stp X2 k2 w2 k3 w3) (h3:Stp X3 k3 w3 k4 w4) (h4:Stp X4 k4 w4 k5 w5) (h5:Stp X5 k5 w5 k6 w6) (h6:Stp X6 k6 w6 k7 w7):Stp (X0++(X1++(X2++(X3++(X4++(X5++X6)))))) k0 w0 k7 w7:=h0.tr (h1.tr (h2.tr (h3.tr (h4.tr (h5.tr h6)))))
theorem T8 {X0 X1 X2 X3 X4 X5 X6 X7:List Nat}{k0 k1 k2 k3 k4 k5 k6 k7 k8:Col}{w0 w1 w2 w3 w4 w5 w6 w7 w8:World}(h0:Stp X0 k0 w0 k1 w1) (h1:Stp X1 k1 w1 k2 w2) (h2:Stp X2 k2 w2 k3 w3) (h3:Stp X3 k3 w3 k4 w4) (h4:Stp X4 k4 w4 k5 w5) (h5:Stp X5 k5 w5 k6 w6) (h6:Stp X6 k6 w6 k7 w7) (h7:Stp X7 k7 w7 k8 w8):Stp (X0++(X1++(X2++(X3++(X4++(X5++(X6++X7))))))) k0 w0 k8 w8:=h0.tr (h1.tr (h2.tr (h3.tr (h4.tr (h5.tr (h6.tr h7))))))
theorem T9 {X0 X1 X2 X3 X4 X5 X6 X7 X8:List Nat}{k0 k1 k2 k3 k4 k5 k6 k7 k8 k9:Col}{w0 w1 w2 w3 w4 w5 w6 w7 w8 w9:World}(h0:Stp X0 k0 w0 k1 w1) (h1:Stp X1 k1 w1 k2 w2) (h2:Stp X2 k2 w2 k3 w3) (h3:Stp X3 k3 w3 k4 w4) (h4:Stp X4 k4 w4 k5 w5) (h5:Stp X5 k5 w5 k6 w6) (h6:Stp X6 k6 w6 k7 w7) (h7:Stp X7 k7 w7 k8 w8) (h8:Stp X8 k8 w8 k9 w9):Stp (X0++(X1++(X2++(X3++(X4++(X5++(X6++(X7++X8)))))))) k0 w0 k9 w9:=h0.tr (h1.tr (h2.tr (h3.tr (h4.tr (h5.tr (h6.tr (h7.tr h8)))))))
theorem T10 {X0 X1 X2 X3 X4 X5 X6 X7 X8 X9:List Nat}{k0 k1 k2 k3 k4 k5 k6 k7 k8 k9 k10:Col}{w0 w1 w2 w3 w4 w5 w6 w7 w8 w9 w10:World}(h0:Stp X0 k0 w0 k1 w1) (h1:Stp X1 k1 w1 k2 w2) (h2:Stp X2 k2 w2 k3 w3) (h3:Stp X3 k3 w3 k4 w4) (h4:Stp X4 k4 w4 k5 w5) (h5:Stp X5 k5 w5 k6 w6) (h6:Stp X6 k6 w6 k7 w7) (h7:Stp X7 k7 w7 k8 w8) (h8:Stp X8 k8 w8 k9 w9) (h9:Stp X9 k9 w9 k10 w10):Stp (X0++(X1++(X2++(X3++(X4++(X5++(X6++(X7++(X8++X9))))))))) k0 w0 k10 w10:=h0.tr (h1.tr (h2.tr (h3.tr (h4.tr (h5.tr (h6.tr (h7.tr (h8.tr h9))))))))
theorem T11 {X0 X1 X2 X3 X4 X5 X6 X7 X8 X9 X10:List Nat}{k0 k1 k2 k3 k4 k5 k6 k7 k8 k9 k10 k11:Col}{w0 w1 w2 w3 w4 w5 w6 w7 w8 w9 w10 w11:World}(h0:Stp X0 k0 w0 k1 w1) (h1:Stp X1 k1 w1 k2 w2) (h2:Stp X2 k2 w2 k3 w3) (h3:Stp X3 k3 w3 k4 w4) (h4:Stp X4 k4 w4 k5 w5) (h5:Stp X5 k5 w5 k6 w6) (h6:Stp X6 k6 w6 k7 w7) (h7:Stp X7 k7 w7 k8 w8) (h8:Stp X8 k8 w8 k9 w9) (h9:Stp X9 k9 w9 k10 w10) (h10:Stp X10 k10 w10 k11 w11):Stp (X0++(X1++(X2++(X3++(X4++(X5++(X6++(X7++(X8++(X9++X10)))))))))) k0 w0 k11 w11:=h0.tr (h1.tr (h2.tr (h3.tr (h4.tr (h5.tr (h6.tr (h7.tr (h8.tr (h9.tr h10)))))))))
theorem T12 {X0 X1 X2 X3 X4 X5 X6 X7 X8 X9 X10 X11:List Nat}{k0 k1 k2 k3 k4 k5 k6 k7 k8 k9 k10 k11 k12:Col}{w0 w1 w2 w3 w4 w5 w6 w7 w8 w9 w10 w11 w12:World}(h0:Stp X0 k0 w0 k1 w1) (h1:Stp X1 k1 w1 k2 w2) (h2:Stp X2 k2 w2 k3 w3) (h3:Stp X3 k3 w3 k4 w4) (h4:Stp X4 k4 w4 k5 w5) (h5:Stp X5 k5 w5 k6 w6) (h6:Stp X6 k6 w6 k7 w7) (h7:Stp X7 k7 w7 k8 w8) (h8:Stp X8 k8 w8 k9 w9) (h9:Stp X9 k9 w9 k10 w10) (h10:Stp X10 k10 w10 k11 w11) (h11:Stp X11 k11 w11 k12 w12):Stp (X0++(X1++(X2++(X3++(X4++(X5++(X6++(X7++(X8++(X9++(X10++X11))))))))))) k0 w0 k12 w12:=h0.tr (h1.tr (h2.tr (h3.tr (h4.tr (h5.tr (h6.tr (h7.tr (h8.tr (h9.tr (h10.tr h11))))))))))
theorem T13 {X0 X1 X2 X3 X4 X5 X6 X7 X8 X9 X10 X11 X12:List Nat}{k0 k1 k2 k3 k4 k5 k6 k7 k8 k9 k10 k11 k12 k13:Col}{w0 w1 w2 w3 w4 w5 w6 w7 w8 w9 w10 w11 w12 w13:World}(h0:Stp X0 k0 w0 k1 w1) (h1:Stp X1 k1 w1 k2 w2) (h2:Stp X2 k2 w2 k3 w3) (h3:Stp X3 k3 w3 k4 w4) (h4:Stp X4 k4 w4 k5 w5) (h5:Stp X5 k5 w5 k6 w6) (h6:Stp X6 k6 w6 k7 w7) (h7:Stp X7 k7 w7 k8 w8) (h8:Stp X8 k8 w8 k9 w9) (h9:Stp X9 k9 w9 k10 w10) (h10:Stp X10 k10 w10 k11 w11) (h11:Stp X11 k11 w11 k12 w12) (h12:Stp X12 k12 w12 k13 w13):Stp (X0++(X1++(X2++(X3++(X4++(X5++(X6++(X7++(X8++(X9++(X10++(X11++X12)))))))))))) k0 w0 k13 w13:=h0.tr (h1.tr (h2.tr (h3.tr (h4.tr (h5.tr (h6.tr (h7.tr (h8.tr (h9.tr (h10.tr (h11.tr h12)))))))))))
theorem T14 {X0 X1 X2 X3 X4 X5 X6 X7 X8 X9 X10 X11 X12 X13:List Nat}{k0 k1 k2 k3 k4 k5 k6 k7 k8 k9 k10 k11 k12 k13 k14:Col}{w0 w1 w2 w3 w4 w5 w6 w7 w8 w9 w10 w11 w12 w13 w14:World}(h0:Stp X0 k0 w0 k1 w1) (h1:Stp X1 k1 w1 k2 w2) (h2:Stp X2 k2 w2 k3 w3) (h3:Stp X3 k3 w3 k4 w4) (h4:Stp X4 k4 w4 k5 w5) (h5:Stp X5 k5 w5 k6 w6) (h6:Stp X6 k6 w6 k7 w7) (h7:Stp X7 k7 w7 k8 w8) (h8:Stp X8 k8 w8 k9 w9) (h9:Stp X9 k9 w9 k10 w10) (h10:Stp X10 k10 w10 k11 w11) (h11:Stp X11 k11 w11 k12 w12) (h12:Stp X12 k12 w12 k13 w13) (h13:Stp X13 k13 w13 k14 w14):Stp (X0++(X1++(X2++(X3++(X4++(X5++(X6++(X7++(X8++(X9++(X10++(X11++(X12++X13))))))))))))) k0 w0 k14 w14:=h0.tr (h1.tr (h2.tr (h3.tr (h4.tr (h5.tr (h6.tr (h7.tr (h8.tr (h9.tr (h10.tr (h11.tr (h12.tr h13))))))))))))
theorem T15 {X0 X1 X2 X3 X4 X5 X6 X7 X8 X9 X10 X11 X12 X13 X14:List Nat}{k0 k1 k2 k3 k4 k5 k6 k7 k8 k9 k10 k11 k12 k13 k14 k15:Col}{w0 w1 w2 w3 w4 w5 w6 w7 w8 w9 w10 w11 w12 w13 w14 w15:World}(h0:Stp X0 k0 w0 k1 w1) (h1:Stp X1 k1 w1 k2 w2) (h2:Stp X2 k2 w2 k3 w3) (h3:Stp X3 k3 w3 k4 w4) (h4:Stp X4 k4 w4 k5 w5) (h5:Stp X5 k5 w5 k6 w6) (h6:Stp X6 k6 w6 k7 w7) (h7:Stp X7 k7 w7 k8 w8) (h8:Stp X8 k8 w8 k9 w9) (h9:Stp X9 k9 w9 k10 w10) (h10:Stp X10 k10 w10 k11 w11) (h11:Stp X11 k11 w11 k12 w12) (h12:Stp X12 k12 w12 k13 w13) (h13:Stp X13 k13 w13 k14 w14) (h14:Stp X14 k14 w14 k15 w15):Stp (X0++(X1++(X2++(X3++(X4++(X5++(X6++(X7++(X8++(X9++(X10++(X11++(X12++(X13++X14)))))))))))))) k0 w0 k15 w15:=h0.tr (h1.tr (h2.tr (h3.tr (h4.tr (h5.tr (h6.tr (h7.tr (h8.tr (h9.tr (h10.tr (h11.tr (h12.tr (h13.tr h14)))))))))))))
theorem T16 {X0 X1 X2 X3 X4 X5 X6 X7 X8 X9 X10 X11 X12 X13 X14 X15:List Nat}{k0 k1 k2 k3 k4 k5 k6 k7 k8 k9 k10 k11 k12 k13 k14 k15 k16:Col}{w0 w1 w2 w3 w4 w5 w6 w7 w8 w9 w10 w11 w12 w13 w14 w15 w16:World}(h0:Stp X0 k0 w0 k1 w1) (h1:Stp X1 k1 w1 k2 w2) (h2:Stp X2 k2 w2 k3 w3) (h3:Stp X3 k3 w3 k4 w4) (h4:Stp X4 k4 w4 k5 w5) (h5:Stp X5 k5 w5 k6 w6) (h6:Stp X6 k6 w6 k7 w7) (h7:Stp X7 k7 w7 k8 w8) (h8:Stp X8 k8 w8 k9 w9) (h9:Stp X9 k9 w9 k10 w10) (h10:Stp X10 k10 w10 k11 w11) (h11:Stp X11 k11 w11 k12 w12) (h12:Stp X12 k12 w12 k13 w13) (h13:Stp X13 k13 w13 k14 w14) (h14:Stp X14 k14 w14 k15 w15) (h15:Stp X15 k15 w15 k16 w16):Stp (X0++(X1++(X2++(X3++(X4++(X5++(X6++(X7++(X8++(X9++(X10++(X11++(X12++(X13++(X14++X15))))))))))))))) k0 w0 k16 w16:=h0.tr (h1.tr (h2.tr (h3.tr (h4.tr (h5.tr (h6.tr (h7.tr (h8.tr (h9.tr (h10.tr (h11.tr (h12.tr (h13.tr (h14.tr h15))))))))))))))
section
variable {P:Program}{n:Nat}{Q:Exit->Act->World->Prop}{L L':Env}{w:World}{ops:Array Oper}{N:Act->World->Prop}{r r':List (Nat×Nat)}{i d:Nat}{o:Oper}{v:Value}{C:World->Prop}
theorem WO.fs {y:Code}(h:WC P n y Q L w):WO P n ops C (λa w=>Exit.then (y.wp P Q) Q .normal a w) [] L w:=WO.fin (Q:=Exit.then (y.wp P Q) Q) (DN.seq h)
theorem WO.pnf (m:Nat) (e:Wk.pn ops n m r L=some ([],L')) (h:DN n Q .normal L' w):WO P n ops C (λa w=>Q .normal a w) r L w:=WO.pn m e (WO.fin h)
theorem WO.pns (m:Nat){y:Code}(e:Wk.pn ops n m r L=some ([],L')) (h:WC P n y Q L' w):WO P n ops C (λa w=>Exit.then (y.wp P Q) Q .normal a w) r L w:=WO.pn m e (WO.fs h)
theorem WC.sri {x:Nat}{y:Code}(ks:List Nat) (hB:(kin ks 0).map (·.1)=List.range ops.size) (h:WO P n ops (λ_=>True) (λa w=>Exit.then (y.wp P Q) Q .normal a w) (kin ks 0) L w):WC P n (.seq (.region x ops false) y) Q L w:=WC.seq (WC.ri ks hB h)
def gop (ops:Array Oper) (L:Env) (n i:Nat):Option (Oper×Nat):=
 match ops[i]? with
 | some o=>match gd ops L o with
  | some true=>match o.dst with
   | some d=>match Nat.blt d n with
    | true=>some (o,d)
    | false=>none
   | none=>none
  | _=>none
 | none=>none
theorem df (h:gop ops L n i=some (o,d)):ops[i]? =some o/\gd ops L o=some true/\o.dst=some d/\Nat.blt d n=true:=by
 unfold gop at h
 split at h
 · rename_i o' e1
   split at h
   · rename_i e2
     split at h
     · rename_i d' e3
       split at h
       · rename_i e4
         simp only[Option.some.injEq,Prod.mk.injEq]at h
         obtain⟨rfl,rfl⟩:=h
         exact⟨e1,e2,e3,e4⟩
       · cases h
     · cases h
   · cases h
 · cases h
theorem WO.k0g (g:gop ops L n i=some (o,d)) (hr:Rn P n C o L v) (k:WO P n ops C N r ((d,v)::L) w):WO P n ops C N ((i,0)::r) L w:=
 WO.k0 (df g).1 (df g).2.1 (df g).2.2.1 (df g).2.2.2 hr k
theorem WO.k2g (g:gop ops L n i=some (o,d)) (hr:Rn P n (λ_=>True) o L v) (k:WO P n ops C N r ((d,v)::L) w):WO P n ops C N ((i,2)::r) L w:=
 WO.k2 (df g).1 (df g).2.1 (df g).2.2.1 (df g).2.2.2 hr k
theorem WO.callg (g:gop ops L n i=some (o,d)){f:FuncId}{xs:List Operand}{ts:Array TypeId}{vs:List Value}
 (hop:o.op= .call { callee:= .value (.func f),args:=xs.toArray,argTypes:=ts }) (hv:opds L xs=some vs) (hc:∀(as:Array Value) (w:World),(callFunc f as).run P w= .ok (.enter f as) w)
 {R:Value->World->Prop} (h:Ret P f vs w R) (k:∀v w',R v w'->C w'/\WO P n ops C N r ((d,v)::L) w'):WO P n ops C N ((i,1)::r) L w:=
 WO.call (df g).1 (df g).2.1 (df g).2.2.1 (df g).2.2.2 hop hv hc h k
theorem uG:∀(ks:List Nat) (i:Nat),(kin ks i).map (·.1)=List.range' i ks.length
 | [],_=>rfl
 | k::r,i=>by
  show i::(kin r (i+1)).map (·.1)=_
  rw[uG r (i+1)];rfl
theorem pj {ks:List Nat}{k:Nat}(h:ks.length=k):(kin ks 0).map (·.1)=List.range k:=by
 rw[uG,h,List.range_eq_range']
theorem WC.pb {x:Nat}{y:Code}(e:Wk.pn ops n ops.size (kin (sh ops.size 2) 0) L=some ([],L')) (h:WC P n y Q L' w):WC P n (.seq (.region x ops false) y) Q L w:=
 WC.sri (sh ops.size 2) (pj (List.length_replicate ..)) (WO.pns ops.size e h)
theorem WC.pf {x:Nat}(e:Wk.pn ops n ops.size (kin (sh ops.size 2) 0) L=some ([],L')) (h:DN n Q .normal L' w):WC P n (.region x ops false) Q L w:=
 WC.ri (sh ops.size 2) (pj (List.length_replicate ..)) (WO.pnf ops.size e h)
def pst (ops:Array Oper) (n:Nat) (ks:List Nat) (m:Nat) (L:Env):Option (List (Nat×Nat)×Env):=
 match Nat.beq ks.length ops.size with
 | true=>Wk.pn ops n m (kin ks 0) L
 | false=>none
theorem rE {ks:List Nat}{m:Nat}(h:pst ops n ks m L=some (r',L')):ks.length=ops.size/\Wk.pn ops n m (kin ks 0) L=some (r',L'):=by
 unfold pst at h
 split at h
 · rename_i e;exact⟨Nat.eq_of_beq_eq_true e,h⟩
 · cases h
theorem WC.pm {x:Nat}{y:Code}(ks:List Nat) (m:Nat) (e:pst ops n ks m L=some (r',L')) (h:WO P n ops (λ_=>True) (λa w=>Exit.then (y.wp P Q) Q .normal a w) r' L' w):WC P n (.seq (.region x ops false) y) Q L w:=
 WC.sri ks (pj (rE e).1) (WO.pn m (rE e).2 h)
theorem WC.pr {x:Nat}(ks:List Nat) (m:Nat) (e:pst ops n ks m L=some (r',L')) (h:WO P n ops (λ_=>True) (λa w=>Q .normal a w) r' L' w):WC P n (.region x ops false) Q L w:=
 WC.ri ks (pj (rE e).1) (WO.pn m (rE e).2 h)
def gld (ops:Array Oper) (L:Env) (n i:Nat):Option (TypeId×Addr×Nat):=
 match gop ops L n i with
 | some (o,d)=>match o.op with
  | .load t x=>match opd L x with
   | some (.pointer (some p))=>some (t,p,d)
   | _=>none
  | _=>none
 | none=>none
theorem WO.ldq {t:TypeId}{p:Addr}{l:List Nat}{κ:Col}(g:gld ops L n i=some (t,p,d)) (ht:∀w,(isAgg t).run P w= .ok false w) (hv:∀w',Ag l κ w w'->w'.cell? p=some v) (k:WO P n ops (λ_=>True) N r ((d,v)::L) w):WO P n ops (λ_=>True) N ((i,1)::r) L w:=by
 unfold gld at g
 split at g
 · rename_i o' d' e1
   split at g
   · rename_i t' x e2
     split at g
     · rename_i p' e3
       simp only[Option.some.injEq,Prod.mk.injEq]at g
       obtain⟨rfl,rfl,rfl⟩:=g
       exact WO.k1 trivial (df e1).1 (df e1).2.1 (df e1).2.2.1 (df e1).2.2.2 (xq ht e2 e3 (hvE hv)) k
     · cases g
   · cases g
 · cases g
def gfa (ops:Array Oper) (L:Env) (n i:Nat):Option (TypeId×Nat×Addr×Nat):=
 match gop ops L n i with
 | some (o,d)=>match o.op with
  | .fieldAddr t x j=>match opd L x with
   | some (.pointer (some p))=>some (t,j,p,d)
   | _=>none
  | _=>none
 | none=>none
theorem WO.faq {t:TypeId}{j:Nat}{p:Addr}{fs:Array Field}{f:Field}{sz:Nat}(g:gfa ops L n i=some (t,j,p,d)) (ht:∀w,(underlying t).run P w= .ok (.struct fs) w) (hf:fs[j]? =some f) (hk:∀w,(sizeOf f.type).run P w= .ok (sz+1) w) (k:WO P n ops C N r ((d,.pointer (some (p.add f.offset)))::L) w):WO P n ops C N ((i,2)::r) L w:=by
 unfold gfa at g
 split at g
 · rename_i o' d' e1
   split at g
   · rename_i t' x j' e2
     split at g
     · rename_i p' e3
       simp only[Option.some.injEq,Prod.mk.injEq]at g
       obtain⟨rfl,rfl,rfl,rfl⟩:=g
       exact WO.k2g e1 (ru ht hf hk e2 e3) k
     · cases g
   · cases g
 · cases g
def gix (ops:Array Oper) (L:Env) (n i:Nat):Option (TypeId×Option Addr×Nat×Nat×IntKind×Int×Nat):=
 match gop ops L n i with
 | some (o,d)=>match o.op with
  | .indexAddr t x ix=>match opd L x with
   | some (.slice a l c)=>match opd L ix with
    | some (.int kk z)=>some (t,a,l,c,kk,z,d)
    | _=>none
   | _=>none
  | _=>none
 | none=>none
theorem WO.ixq {α:Type}{E:Rp α}{S:Nat->Prop}{w0:World}{t e:TypeId}{a:Option Addr}{c sz:Nat}{kk:IntKind}{z:Int}{xs:List α}{y:α}(g:gix ops L n i=some (t,a,xs.length,c,kk,z,d)) (hs:Sl E S w0 a c xs) (h:idx xs z=some y)
 (ht:∀w,(underlying t).run P w= .ok (.slice e) w) (hz:∀w,(sizeOf e).run P w= .ok sz w) (k:WO P n ops C N r ((d,.pointer (some (aAt a (z.toNat * sz))))::L) w):WO P n ops C N ((i,2)::r) L w:=by
 unfold gix at g
 split at g
 · rename_i o' d' e1
   split at g
   · rename_i t' x ix e2
     split at g
     · rename_i a' l' c' e3
       split at g
       · rename_i k' z' e4
         simp only[Option.some.injEq,Prod.mk.injEq]at g
         obtain⟨rfl,rfl,e5,rfl,rfl,rfl,rfl⟩:=g
         exact WO.k2g e1 (tl hs h ht hz e2 e3 e5 e4) k
       · cases g
     · cases g
   · cases g
 · cases g
theorem Ret.in1 {f:FuncId}{fn:Func}{c:Code}{args:List Value}(κ:Col){R:Value->World->Prop}(hf:P.funcs[f]? =some fn) (hb:fn.body=some c) (hn:fn.ntmps=n) (hl:Nat.ble args.length n=true) (k:Ent κ w κ w->WC P n c (bodyPost P fn (λe w'=>∃v,e= .returned v/\R v w')) (sP 0 args) w):Ret P f args w R:=Ret.enter hf hb hn hl (k (Ent.refl κ w))
theorem WO.lnr {x:Operand}{t e:TypeId}{a0:Option Addr}{l c:Nat}(g:gop ops L n i=some (o,d)) (ht:∀w,(underlying t).run P w= .ok (.slice e) w) (ho:o.op= .call { callee:= .builtin .len,args:= #[x],argTypes:= #[t] })
 (hx:opd L x=some (.slice a0 l c)) (k:WO P n ops C N r ((d,.int .i64 (l:Int))::L) w):WO P n ops C N ((i,2)::r) L w:=WO.k2g g (xS ht ho hx) k
def gos (ops:Array Oper) (L:Env) (i:Nat):Option Oper:=
 match ops[i]? with
 | some o=>match gd ops L o with
  | some true=>match o.dst with
   | none=>some o
   | some _=>none
  | _=>none
 | none=>none
theorem wm (h:gos ops L i=some o):ops[i]? =some o/\gd ops L o=some true/\o.dst=none:=by
 unfold gos at h
 split at h
 · rename_i o' e1
   split at h
   · rename_i e2
     split at h
     · rename_i e3
       simp only[Option.some.injEq]at h
       obtain rfl:=h
       exact⟨e1,e2,e3⟩
     · cases h
   · cases h
 · cases h
def gof (ops:Array Oper) (L:Env) (n i:Nat):Option (Oper×Nat):=
 match ops[i]? with
 | some o=>match gd ops L o with
  | some false=>match o.dst with
   | some d=>match Nat.blt d n with
    | true=>some (o,d)
    | false=>none
   | none=>none
  | _=>none
 | none=>none
theorem mu (h:gof ops L n i=some (o,d)):ops[i]? =some o/\gd ops L o=some false/\o.dst=some d/\Nat.blt d n=true:=by
 unfold gof at h
 split at h
 · rename_i o' e1
   split at h
   · rename_i e2
     split at h
     · rename_i d' e3
       split at h
       · rename_i e4
         simp only[Option.some.injEq,Prod.mk.injEq]at h
         obtain⟨rfl,rfl⟩:=h
         exact⟨e1,e2,e3,e4⟩
       · cases h
     · cases h
   · cases h
 · cases h
theorem WO.lsq (g:gof ops L n i=some (o,d)) (k:WO P n ops C N r ((d,undef)::L) w):WO P n ops C N ((i,1)::r) L w:=WO.ls (mu g).1 (mu g).2.1 (mu g).2.2.1 (mu g).2.2.2 k
theorem WO.qsq (g:gof ops L n i=some (o,d)) (k:WO P n ops C N r ((d,undef)::L) w):WO P n ops C N ((i,0)::r) L w:=WO.qs (mu g).1 (mu g).2.1 (mu g).2.2.1 (mu g).2.2.2 k
theorem WO.k1q (hC:C w) (g:gop ops L n i=some (o,d)) (hr:Rn P n (λx=>x=w) o L v) (k:WO P n ops C N r ((d,v)::L) w):WO P n ops C N ((i,1)::r) L w:=
 WO.k1 hC (df g).1 (df g).2.1 (df g).2.2.1 (df g).2.2.2 hr k
theorem WO.callq {f:FuncId}{xs:List Operand}{ts:Array TypeId}{vs:List Value}(e:(gop ops L n i,o.op,opds L xs)=(some (o,d),.call { callee:= .value (.func f),args:=xs.toArray,argTypes:=ts },some vs))
 (hc:∀(as:Array Value) (w:World),(callFunc f as).run P w= .ok (.enter f as) w) {R:Value->World->Prop} (h:Ret P f vs w R) (k:∀v w',R v w'->C w'/\WO P n ops C N r ((d,v)::L) w'):WO P n ops C N ((i,1)::r) L w:=
 WO.callg (congrArg (·.1) e) (congrArg (·.2.1) e) (congrArg (·.2.2) e) hc h k
theorem yk {x:Operand}{t:TypeId}{p:Addr}{cs:List Value}{k:Nat}(hv:∀w,C w->∀(j:Nat) v,cs[j]? =some v->w.cell? (p.add j)=some v) (ht:∀w,(isAgg t).run P w= .ok true w) (hk:∀w,(sizeOf t).run P w= .ok k w)
 (e:(o.op,opd L x,cs.length)=(.load t x,some (.pointer (some p)),k)):Rn P n C o L (.agg cs.toArray):=yp ht hk (congrArg (·.1) e) (congrArg (·.2.1) e) (congrArg (·.2.2) e) hv
theorem WO.boxq {κ:Col}(q:Nat){T:TypeId}{x:Operand}{cs:List Value}(e:(gop ops L n i,o.op,opd L x,v.cells)=(some (o,d),.box T x,some v,cs.toArray))
 (k:∀b w' κ',Stp [] κ w κ' w'->Bc κ' w' q b T cs->C w'/\WO P n ops C N r ((d,.pointer (some ⟨b,0,none⟩))::L) w'):WO P n ops C N ((i,1)::r) L w:=
 have g:=df (congrArg (·.1) e);WO.box q g.1 g.2.1 g.2.2.1 g.2.2.2 (congrArg (·.2.1) e) (congrArg (·.2.2.1) e) (congrArg (·.2.2.2) e) k
theorem WO.allocq {κ:Col}(q:Nat){T:TypeId}{z:Value}{cs:List Value}(e:(gop ops L n i,o.op)=(some (o,d),.alloc T)) (hz:∀w,(zeroValue T).run P w= .ok z w) (hcs:z.cells=cs.toArray)
 (k:∀b w' κ',Stp [] κ w κ' w'->Bc κ' w' q b T cs->C w'/\WO P n ops C N r ((d,.pointer (some ⟨b,0,none⟩))::L) w'):WO P n ops C N ((i,1)::r) L w:=
 have g:=df (congrArg (·.1) e);WO.alloc q g.1 g.2.1 g.2.2.1 g.2.2.2 (congrArg (·.2) e) hz hcs k
theorem WO.stBq {κ:Col}(q:Nat){t T:TypeId}{x y:Operand}{b off sz:Nat}{cs vc cs':List Value}
 (e:(gos ops L i,o.op,opd L x,opd L y,v.cells)=(some o,.store t x y,some (.pointer (some ((⟨b,0,none⟩:Addr).add off))),some v,vc.toArray)) (hz:∀w,(sizeOf t).run P w= .ok sz w) (e2:(vc.length,(vc.all λu=>u.oneCell'))=(sz,true))
 (hb:Bc κ w q b T cs) (e3:(Nat.ble (off+sz) cs.length,cs.take off++vc++cs.drop (off+sz))=(true,cs'))
 (k:∀w',Stp [q] κ w κ w'->Bc κ w' q b T cs'->C w'/\WO P n ops C N r L w'):WO P n ops C N ((i,1)::r) L w:=
 have g:=wm (congrArg (·.1) e);WO.stB q g.1 g.2.1 g.2.2 (congrArg (·.2.1) e) (congrArg (·.2.2.1) e) (congrArg (·.2.2.2.1) e) (congrArg (·.2.2.2.2) e) hz (congrArg (·.1) e2) (congrArg (·.2) e2) hb (congrArg (·.1) e3) (congrArg (·.2) e3) k
theorem WO.stB0q {κ:Col}(q:Nat){t T:TypeId}{x y:Operand}{b sz:Nat}{cs vc:List Value}
 (e:(gos ops L i,o.op,opd L x,opd L y,v.cells)=(some o,.store t x y,some (.pointer (some ⟨b,0,none⟩)),some v,vc.toArray)) (hz:∀w,(sizeOf t).run P w= .ok sz w) (e2:(vc.length,(vc.all λu=>u.oneCell'))=(sz,true))
 (hb:Bc κ w q b T cs) (hfit:cs.length=sz)
 (k:∀w',Stp [q] κ w κ w'->Bc κ w' q b T vc->C w'/\WO P n ops C N r L w'):WO P n ops C N ((i,1)::r) L w:=
 have g:=wm (congrArg (·.1) e);WO.stB0 q g.1 g.2.1 g.2.2 (congrArg (·.2.1) e) (congrArg (·.2.2.1) e) (congrArg (·.2.2.2.1) e) (congrArg (·.2.2.2.2) e) hz (congrArg (·.1) e2) (congrArg (·.2) e2) hb hfit k
theorem WO.blq {κ:Col}{α:Type}{E:Ep α}(q:Nat) (l:List Nat){t T:TypeId}{len:Nat}{parts:List (Nat×Operand)}{vs:List Value}{cells:List Value}{zv:Value}{ti:TypeInfo}{xs:List α}
 (e:(gop ops L n i,o.op,opds L (parts.map (·.2)))=(some (o,d),.buildSlice t len parts.toArray,some vs)) (ht:P.underlying t=some (.slice T)) (hi:P.info? T=some ti)
 (e2:(ti.zero,ti.size,Nat.ble (len * ti.size) 16777216,Nat.blt 0 (len * ti.size),List.zip (parts.map (·.1)) vs,vs.length,(vs.flatMap λv=>v.cells.toList),xs.length,(vs.all λv=>Nat.beq v.cells.size E.size),nin l 0)=(some zv,E.size,true,true,((vs.zipIdx 0).map λx=>(x.2,x.1)),len,cells,len,true,true))
 (hl:LstO E (Zl κ w [0]) w (Zl κ w l) cells xs)
 (k:∀a c w' κ',Stp l κ w κ' w'->Oc E T κ' w' q a c xs->C w'/\WO P n ops C N r ((d,.slice a xs.length c)::L) w'):WO P n ops C N ((i,1)::r) L w:=
 have g:=df (congrArg (·.1) e);WO.bl q l g.1 g.2.1 g.2.2.1 g.2.2.2 (congrArg (·.2.1) e) (congrArg (·.2.2) e) ht hi (congrArg (·.1) e2) (congrArg (·.2.1) e2) (congrArg (·.2.2.1) e2) (congrArg (·.2.2.2.1) e2) (congrArg (·.2.2.2.2.1) e2) (congrArg (·.2.2.2.2.2.1) e2) (congrArg (·.2.2.2.2.2.2.1) e2) (congrArg (·.2.2.2.2.2.2.2.1) e2) (congrArg (·.2.2.2.2.2.2.2.2.1) e2) (congrArg (·.2.2.2.2.2.2.2.2.2) e2) hl k
theorem WO.bl0q {κ:Col}{α:Type}{E:Ep α}(q:Nat){t T:TypeId}{ti:TypeInfo}(e:(gop ops L n i,o.op)=(some (o,d),.buildSlice t 0 #[])) (ht:P.underlying t=some (.slice T)) (hi:P.info? T=some ti) (hs:ti.size=E.size)
 (k:∀a c w' κ',Stp [] κ w κ' w'->Oc E T κ' w' q a c ([]:List α)->C w'/\WO P n ops C N r ((d,.slice a ([]:List α).length c)::L) w'):WO P n ops C N ((i,1)::r) L w:=
 have g:=df (congrArg (·.1) e);WO.bl0 q g.1 g.2.1 g.2.2.1 g.2.2.2 (congrArg (·.2) e) ht hi hs k
theorem WO.appq {κ:Col}{α:Type}{E:Ep α}(q:Nat) (l:List Nat){t T:TypeId}{x y:Operand}{bytes:Nat}{zv:Value}{ti:TypeInfo}{a ay:Option Addr}{c cy lx ly:Nat}{xs ys zs:List α}{Sy:Nat->Prop}
 (e:(gop ops L n i,o.op,opd L x,lx,opd L y,ly)=(some (o,d),.call { callee:= .builtin .append,args:= #[x,y],argTypes:= #[t,t] },some (.slice a lx c),xs.length,some (.slice ay ly cy),ys.length))
 (ht:P.underlying t=some (.slice T)) (hi:P.info? T=some ti) (e2:(ti.zero,ti.size,ti.bytes,zv.cells.size)=(some zv,E.size,bytes,E.size))
 (hown:Oc E T κ w q a c xs) (hsrc:SrcO E (Zl κ w [0]) Sy w ay cy ys) (hSy:∀b,Sy b->Zl κ w l b/\κ b≠q) (happ:appS bytes xs ys=some zs) (h0:nin (q::l) 0=true)
 (k:∀a' c' w' κ',Stp (q::l) κ w κ' w'->Oc E T κ' w' q a' c' zs->C w'/\WO P n ops C N r ((d,.slice a' zs.length c')::L) w'):WO P n ops C N ((i,1)::r) L w:=
 have g:=df (congrArg (·.1) e);WO.app q l g.1 g.2.1 g.2.2.1 g.2.2.2 (congrArg (·.2.1) e) (congrArg (·.2.2.1) e) (congrArg (·.2.2.2.1) e) (congrArg (·.2.2.2.2.1) e) (congrArg (·.2.2.2.2.2) e) ht hi (congrArg (·.1) e2) (congrArg (·.2.1) e2) (congrArg (·.2.2.1) e2) (congrArg (·.2.2.2) e2) hown hsrc hSy happ h0 k
end
end Go.Wk
