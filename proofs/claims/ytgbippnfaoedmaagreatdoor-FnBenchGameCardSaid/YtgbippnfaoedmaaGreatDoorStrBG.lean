/- Strings: operations, bytes of own slices. -/
import Derived.Test.YtgbippnfaoedmaaGreatDoorFbBG
import Derived.Laws.BytesString
import Derived.Lib.AppendStr
set_option linter.unusedVariables false
set_option linter.unusedSimpArgs false
open List renaming append_assoc → yM, eq_nil_of_length_eq_zero → yR, length_append → yq, length_take → y8
open Nat renaming mul_one → pb
namespace Go.Wk
open Go
def eqB (p q:ByteArray):Bool:=decide (p.data.toList=q.data.toList)
def catB (p q:ByteArray):Option ByteArray:=if p.size+q.size<=9223372036854775807 then some (p++q) else none
def idxB (s:ByteArray) (i:Int):Option Int:=if 0<=i/\i<s.size then some ((s.data.toList.getD i.toNat 0).toNat:Int) else none
def subB (s:ByteArray) (l h:Int):Option ByteArray:=if 0<=l/\l<=h/\h<=s.size then some (s.extract l.toNat h.toNat) else none
def strB (xs:List Int):ByteArray:=⟨(xs.map λn=>UInt8.ofNat n.toNat).toArray⟩
def bytesB (s:ByteArray):List Int:=s.data.toList.map λa=>(a.toNat:Int)
theorem nW (s:ByteArray):(bytesB s).length=s.size:=by simp[bytesB]
section
variable {P:Program}{n:Nat}{C:World->Prop}{o:Oper}{L:Env}
section
variable {x y:Operand}{t t':TypeId}{p q:ByteArray}(hx:opd L x=some (.string p)) (hy:opd L y=some (.string q))
include hx hy
theorem cc {v:ByteArray}(b:o.op= .binOp .add t x y t') (h:catB p q=some v):Rn P n C o L (.string v):=λc w ha _=>by
 unfold catB at h
 split at h
 .rename_i d
  cases h
  have a:¬((IntKind.i64.max:Int)<(p.size:Int)+(q.size:Int)):=by
   have:IntKind.i64.max=9223372036854775807:=by decide
   omega
  simp[execOp,b,ha.eval hx,ha.eval hy,eqGuard,binOp,Op.stringOp,a]
  omega
 .cases h
theorem bJ (b:o.op= .binOp .eql t x y t'):Rn P n C o L (.bool (eqB p q)):=λc w ha _=>by
 simp[execOp,b,ha.eval hx,ha.eval hy,eqGuard,binOp,Op.stringOp,eqB,ByteArray.toList_eq]
 by_cases a:p.data=q.data <;> simp[a]
theorem va (b:o.op= .binOp .neq t x y t'):Rn P n C o L (.bool (!(eqB p q))):=λc w ha _=>by
 simp[execOp,b,ha.eval hx,ha.eval hy,eqGuard,binOp,Op.stringOp,eqB,ByteArray.toList_eq]
 by_cases a:p.data=q.data <;> simp[a]
end
theorem iL {x y:Operand}{t:TypeId}{s:ByteArray}{k:IntKind}{i r:Int}(e:∀w,(underlying t).run P w= .ok .string w) (h:idxB s i=some r) (d:o.op= .index t x y) (hx:opd L x=some (.string s)) (hy:opd L y=some (.int k i)):
 Rn P n C o L (.int .u8 r):=λf w ha _=>by
 unfold idxB at h
 split at h
 .rename_i c
  cases h
  have a:i.toNat<s.size:=by omega
  have b:s[i.toNat]? =some (s.data.toList.getD i.toNat 0):=by
   rw[getElem?_pos s i.toNat a,List.getD_eq_getElem?_getD,List.getElem?_eq_getElem (by simpa using a)]
   rfl
  simp[execOp,d,ha.eval hx,ha.eval hy,Instr.index,asIntOf,e,c.1,b]
 .cases h
theorem sQ {s r:ByteArray}{t:TypeId}{x:Operand}{lo hi:Option Operand}{l h:Int}{k1 k2:IntKind}(c:∀w,(underlying t).run P w= .ok .string w)
 (k:lo=none/\l=0\/∃y,lo=some y/\opd L y=some (.int k1 l)) (j:hi=none/\h=s.size\/∃y,hi=some y/\opd L y=some (.int k2 h)) (b:subB s l h=some r)
 (a:o.op= .slice t x lo hi none) (hx:opd L x=some (.string s)):Rn P n C o L (.string r):=λm w ha _=>by
 unfold subB at b
 split at b
 .rename_i d
  cases b
  have e:0<=h:=by omega
  have i:l<=(h.toNat:Int):=by omega
  rcases k with ⟨rfl,rfl⟩|⟨q,rfl,f⟩ <;> rcases j with ⟨rfl,rfl⟩|⟨u,rfl,g⟩
  .simp[execOp,a,ha.eval hx,Instr.sliceAt,Instr.slice,Instr.sliceBounds,c]
  .simp[execOp,a,ha.eval hx,ha.eval g,Instr.sliceAt,Instr.slice,Instr.sliceBounds,Instr.sliceBound,asIntOf,c,d,e]
  .simp[execOp,a,ha.eval hx,ha.eval f,Instr.sliceAt,Instr.slice,Instr.sliceBounds,Instr.sliceBound,asIntOf,c,d]
  .simp[execOp,a,ha.eval hx,ha.eval f,ha.eval g,Instr.sliceAt,Instr.slice,Instr.sliceBounds,Instr.sliceBound,asIntOf,c,d,e,i]
   intro p;omega
 .cases b
theorem sO {x y:Operand}{t e:TypeId}{xs:List ByteArray}{len:Nat}{k:IntKind}{i:Int}{r:ByteArray}(l:∀w,(underlying t).run P w= .ok (.array len e) w) (ha:∀w,(isAgg e).run P w= .ok false w) (m:∀w,(sizeOf e).run P w= .ok 1 w) (g:xs.length=len) (h:idx xs i=some r) (j:o.op= .index t x y)
 (hx:opd L x=some (.agg (xs.map Value.string).toArray)) (hy:opd L y=some (.int k i)):Rn P n C o L (.string r):=λp w a _=>by
 obtain⟨b,c,f⟩:=ko h
 have d:i<(len:Int):=by rw[← g];exact c
 simp[execOp,j,a.eval hx,a.eval hy,Instr.index,asIntOf,l,m,part,ha,b,d,f]
theorem Sl.cellsS {J:Col}{w:World}{q c b:Nat}{xs:List ByteArray}(f:Rd Rp.str J w q (some ⟨b,0,none⟩) c xs):∀d,Ag [0,q] J w d->∀(j:Nat) e,(xs.map Value.string)[j]? =some e->d.cell? ((⟨b,0,none⟩:Addr).add j)=some e:=λd g j e a=>by
 rw[List.getElem?_map]at a
 cases hx:xs[j]? with
 |none=>rw[hx]at a;cases a
 |some x=>
  rw[hx]at a
  cases a
  have h:=Sl.gStr f (i:=(j:Int)) (x:=x) (by unfold idx;simp[hx]) d g
  simpa [aAt] using h
theorem ug {c:Type}{xs:List c}{y:c}{x a:Operand}{t e:TypeId}{p:Addr}{len b:Nat}{k:IntKind}{i:Int}(h:idx xs i=some y) (m:xs.length=len) (f:∀w,(underlying t).run P w= .ok (.array len e) w) (g:∀w,(sizeOf e).run P w= .ok b w) (d:o.op= .indexAddr t x a)
 (hx:opd L x=some (.pointer (some p))) (hi:opd L a=some (.int k i)):Rn P n C o L (.pointer (some (aAt (some p) (i.toNat * b)))):=by
 obtain⟨j,l,_⟩:=ko h
 exact uf f g d hx hi (by simp only[Bool.and_eq_true,decide_eq_true_eq];omega)
theorem svE {d:Type}{E:Rp d}{J:Col}{w:World}{i:Nat}{a:Option Addr}{c:Nat}{xs:List d}(h:Rd E J w i a c xs):∀b,b=w->Sl E (λ_=>True) b a c xs:=
 λb e=>by subst e;exact h.st λf g=>⟨trivial,rfl⟩
theorem pK:∀(a:List Int) (s:ByteArray),a.foldl (λr n=>r.push (UInt8.ofNat n.toNat)) s=⟨s.data++(a.map λn=>UInt8.ofNat n.toNat).toArray⟩
 | [],s=>by simp
 |x::a,s=>by
  rw[List.foldl_cons,pK a]
  simp[ByteArray.push]
theorem uX {xs:List Int}{x:Operand}{i f e:TypeId}{a:Option Addr}{m c:Nat}(E:P.underlying i=some (.slice e)) (v:P.underlying e=some (.int .u8)) (u:P.underlying f=some .string)
 (A:m=xs.length) (h:∀w,C w->Sl (Rp.int .u8) (λ_=>True) w a c xs) (B:o.op= .convert i f x) (hx:opd L x=some (.slice a m c)):Rn P n C o L (.string (strB xs)):=λH w ha t=>by
 subst A
 have D:=run_convert_bytes_string (P:=P) w i f e a xs.length c E v u
 obtain⟨K,M,k⟩:=h w t
 have G:(Conv.bytesToString (.slice a xs.length c)).run P w= .ok (.string (strB xs)) w:=by
  cases a with
  |none=>
   have F:xs=[]:=by
    rcases k with ⟨e,_⟩|⟨_,_,e,_⟩
    .exact e
    .cases e
   subst F
   simp[Conv.bytesToString,strB]
   rfl
  |some p=>
   have z:(loadCells p xs.length).run P w= .ok (xs.map (Value.int .u8)).toArray w:=by
    have:=run_firstCells_some (P:=P) w 1 xs.length p xs.length c (xs.map (Value.int .u8)) (by simp) (λl N b=>by
     rw[List.getElem?_map]at b
     cases d:xs[l]? with
     |none=>rw[d]at b;cases b
     |some j=>
      rw[d]at b
      cases b
      rcases k with ⟨e,_⟩|⟨I,of,e,_,y⟩
      .rw[e]at d;cases d
      .cases e
       obtain⟨q,s,g⟩:=y l j d
       have g:q=[.int .u8 j]:=g
       have:=s 0 (.int .u8 j) (by rw[g];rfl)
       have r:(Rp.int .u8).size=1:=rfl
       rw[r,pb,Nat.add_zero]at this
       rw[addb]
       exact this)
    simpa [Builtin.firstCells] using this
   rw[run_bytesToString w p xs.length c xs z,pK]
   simp[strB]
 simp[execOp,B,ha.eval hx,D,G]
end
theorem rC {k:IntKind}{F:Nat->Prop}{w:World}:∀{xs:List Int},LstO (Ep.int k) F w (λ_=>False) (xs.map (Value.int k)) xs
 | []=>rfl
 |x::r=>⟨[.int k x],r.map (Value.int k),λ_=>False,λ_=>False,rfl,λ_ h=>h.elim,λ_ h=>h.elim,rfl,rC⟩
theorem nE (s:ByteArray):Lib.strCells s=(bytesB s).map (Value.int .u8):=by simp[Lib.strCells,bytesB]
theorem vj {P:Program}{w:World}{t u ty T:TypeId}{m:TypeInfo}{n:Value}(r:P.underlying t=some (.slice T)) (d:P.underlying u=some .string) (hi:P.info? T=some m) (O:m.zero=some n) (M:m.size=1) (G:m.bytes=1) (Y:n.cells.size=1)
 {a:Option Addr} {k c:Nat} {e:List Value} (p:OwR w T 1 a k c e) {s:ByteArray} (ac:k+s.size<=9223372036854775807) (F:k+s.size<=140737488355328):
 ∃q D B,(Builtin.append_ #[t,u] ty #[.slice a k c,.string s]).run P w= .ok (.slice q (k+s.size) D) B/\OwR B T 1 q (k+s.size) D (e++Lib.strCells s)/\Tch (nb a) w B/\(nb q=nb a\/w.heap.size<nb q):=by
 have ab:k<=c:=by
  rcases p.2 with ⟨_,R,Z⟩|⟨b,o,f,_,_,R,_⟩ <;> omega
 have I:e.length=k:=by rw[p.1,pb]
 have l:=Lib.strCells_length s
 have x:(e++Lib.strCells s).length=(k+s.size) * 1:=by rw[yq,I,l,pb]
 have W:k+s.size<=maxLen:=by unfold maxLen;omega
 have E:∀(g:Nat),g<k+s.size ->
  OwR (w.drew.alloc (.cells (e.toArray++(Lib.strCells s).toArray++Builtin.zeroCells n.cells (grownCap w (k+s.size) g T-(k+s.size))) T)) T 1 (some ⟨w.heap.size,0,none⟩) (k+s.size) (grownCap w (k+s.size) g T) (e++Lib.strCells s) /\
  Tch (nb a) w (w.drew.alloc (.cells (e.toArray++(Lib.strCells s).toArray++Builtin.zeroCells n.cells (grownCap w (k+s.size) g T-(k+s.size))) T)):=by
  intro g ad
  have V:=grownCap_ge w (k+s.size) g T
  refine⟨⟨x,.inr ⟨w.heap.size,0,_,rfl,heap_alloc_new w.drew _,V,grownCap_le_maxLen w (k+s.size) g T W,?_,?_⟩⟩,⟨rfl,rfl,rfl,by simp,λC F=>heap_alloc_old w.drew _ F.1⟩⟩
  .simp only[Array.size_append,List.size_toArray,size_zeroCells,Y,I,l]
   omega
  .simp only[Array.toList_append,yM,List.drop_zero]
   rw[← yM,← x]
   exact List.take_left
 have H:=Lib.run_firstCells_string (P:=P) w 1 s
 rcases p.2 with ⟨rfl,rfl,rfl⟩|⟨b,o,f,rfl,v,_,S,U,z⟩
 .have hx:e=[]:=yR (by simpa using p.1)
  subst hx
  by_cases y:s.size=0
  .have K:Lib.strCells s=[]:=yR (by rw[l,y])
   rw[K]at H
   refine⟨none,0,w,?_,⟨by rw[K,y];rfl,.inl ⟨rfl,by omega,rfl⟩⟩,Fr.refl _ _,.inl rfl⟩
   simp[Builtin.append_,run_underlying r,run_underlying d,sizeOf,typeInfo,hi,Builtin.lenOf,y,Builtin.firstCells]
  .have j:=run_append_nil_string (P:=P) w t u ty T m n r d hi O s (by omega) (by omega) (by rw[G];omega)
   have i:=E 0 (by omega)
   have Q:s.data.map (λC=>Value.int .u8 C.toNat)=(Lib.strCells s).toArray:=by
    apply Array.ext'
    simp[Lib.strCells]
   rw[Q]at j
   simp only[Nat.zero_add,List.nil_append,Array.empty_append]at i ⊢
   exact⟨_,_,_,j,i.1,i.2,.inr (by simp[nb])⟩
 .by_cases L:k+s.size<=c
  .rw[pb]at U z
   have N:=run_storeCells_at P b (o+k) T (Lib.strCells s) 0 f w v (by rw[l];omega) (Lib.strCells_oneCell s)
   simp only[Nat.add_zero]at N
   have j:(Builtin.append_ #[t,u] ty #[.slice (some ⟨b,o,none⟩) k c,.string s]).run P w= .ok (.slice (some ⟨b,o,none⟩) (k+s.size) c) (w.setRow b (f.toList.take (o+k)++Lib.strCells s++f.toList.drop (o+k+(Lib.strCells s).length)).toArray):=by
    simp[Builtin.append_,run_underlying r,run_underlying d,sizeOf,typeInfo,hi,M,Builtin.lenOf,L,H,addb,N]
   refine⟨_,_,_,j,⟨x,.inr ⟨b,o,_,rfl,setRow_heap w b f _ T _ v,L,S,?_,?_⟩⟩,Tch.setRow w b _,.inl rfl⟩
   .simp only[List.size_toArray,yq,y8,List.length_drop,Array.length_toList,l]
    omega
   .rw[← z,pb]
    have aa:f.toList.length=f.size:=by simp
    generalize f.toList=cl at *
    simp only[]
    rw[yM,List.drop_append,List.drop_take,y8,show o-min (o+k) cl.length=0 from by omega,List.drop_zero,show o+k-o=k from by omega,← yM]
    refine List.take_left' ?_
    simp only[yq,y8,List.length_drop,l]
    omega
  .have X:∀(A:Nat) u,e[A]? =some u->w.cell? ((⟨b,o,none⟩:Addr).add A)=some u:=λA u d=>by
    rw[← z,List.getElem?_take]at d
    split at d
    .rw[addb,cell_of_row w b _ f T (0,0) v]
     rw[List.getElem?_drop]at d
     simpa using d
    .cases d
   have j:=Lib.run_append_grow_string (P:=P) w t u ty T m n r d hi O ⟨b,o,none⟩ k c e (by rw[M];exact p.1) X s (by omega) (by omega) (growslice_fits (by omega) (by rw[G];omega))
   have i:=E c (by omega)
   exact⟨_,_,_,j,i.1,i.2,.inr (by simp[nb])⟩
section
variable {P:Program}{n:Nat}{ops:Array Oper}{C:World->Prop}{N:Act->World->Prop}{r:List (Nat×Nat)}{L:Env}{J:Col}{w:World}{i d:Nat}{o:Oper}
theorem WO.appS (q:Nat) (ag:ops[i]? =some o) (ac:gd ops L o=some true) (aa:o.dst=some d) (e:Nat.blt d n=true){t u T:TypeId}{x y:Operand}{O:Value}{m:TypeInfo}
 {a:Option Addr} {c M:Nat} {xs p:List Int} {s:ByteArray} (ah:o.op= .call { callee:= .builtin .append,args:= #[x,y],argTypes:= #[t,u] }) (hx:opd L x=some (.slice a M c)) (af:M=xs.length) (hy:opd L y=some (.string s))
 (am:P.underlying t=some (.slice T)) (an:P.underlying u=some .string) (ad:P.info? T=some m) (ao:m.zero=some O) (al:m.size=1) (Z:m.bytes=1) (ap:O.cells.size=1)
 (ai:Oc (Ep.int .u8) T J w q a c xs) (W:appS 1 xs (bytesB s)=some p) (S:nin [q] 0=true)
 (aq:∀g j f Q,Stp [q] J w Q f->Oc (Ep.int .u8) T Q f q g j p->C f/\WO P n ops C N r ((d,.slice g p.length j)::L) f):WO P n ops C N ((i,1)::r) L w:=
 WO.l ag ac aa e λR ha=>by
  obtain⟨z,aj,A,ae⟩:=ai
  obtain⟨X,Y,K⟩:=tf W
  rw[nW]at X Y
  subst af
  obtain⟨g,j,f,ak,H,v,F⟩:=vj (P:=P) (ty:=o.type) am an ad ao al Z ap aj (s:=s) (by omega) (by omega)
  unfold Runs
  have ab:(execOp R.eval o).run P w= .ok (.value (.slice g (xs.length+s.size) j)) f:=by
   simp[execOp,ah,ha.eval hx,ha.eval hy,resolve,invoke,builtin,ak]
  rw[ab]
  have D:p.length=xs.length+s.size:=by rw[K,yq,nW]
  have I:Stp [q] J w (rlc J [q] w.heap.size q) f:=Stp.rlT _ _ v λb e=>by
   have:=(A b e).2
   simp only[List.mem_cons,List.not_mem_nil,or_false]at this
   rw[this];simp
  have B:=aq g j f _ I ⟨z++Lib.strCells s,by rw[D];exact H,λb e=>?_,?_⟩
  .rw[D]at B;exact B
  .refine⟨H.lt e,?_⟩
   rcases F with k|k
   .have l:=(A b (by rw[← k];exact e)).2
    simp only[List.mem_cons,List.not_mem_nil,or_false]at l
    rw[ig (by rw[l];simp)];simp
   .rw[qr (by omega)];simp
  .rw[K,nE]
   have G:∀b,Zl J w [q] b->b+1≠nb a->(Zl (rlc J [q] w.heap.size q) f [q] b/\b+1≠nb g)/\f.heap[b]? =w.heap[b]?:=λb e E=>by
    have l:=v.block b ⟨e.1,E⟩
    refine⟨⟨⟨Nat.lt_of_lt_of_le e.1 v.size,by rw[ig e.2];simp⟩,λh=>?_⟩,l⟩
    rcases F with k|k
    .exact E (by rw[← k];exact h)
    .have:=e.1;omega
   have V:=Zl.st I (nin1 S)
   have U:LstO (Ep.int .u8) (Zl (rlc J [q] w.heap.size q) f [0]) f (λb=>Zl J w [q] b/\b+1≠nb a) z xs:=ae.st V λb e=>⟨e,(G b e.1 e.2).2⟩
   exact LstO.append rC (λb e=>⟨(G b e.1 e.2).1,λh=>h⟩) (λb e=>e.elim) U
end
end Go.Wk
