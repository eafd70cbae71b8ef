/- Sorting an own slice of words that are only read: the kit's contract of slices.SortFunc in this frame. -/
import Derived.Test.YtldlmopdhmaceaaGreatDoorFbBE
import Derived.Test.YtldlmopdhmaceaaGreatDoorCmpBE
import Derived.Shelf.SlSortCmp.Whole1
set_option linter.unusedVariables false
set_option linter.unusedSimpArgs false
open Array renaming getElem?_append_left → Hl, getElem?_eq_getElem → Hn, getElem?_modify → Ho, getElem?_toList → Fl
open Go.Sort renaming ahead → bI, grow → Hm, mapBlock → bJ, putCells → bL, putRow → bP
open List renaming getElem?_eq_getElem → ct
open Nat renaming mul_one → hV
namespace Go.Wk
open Go
section
open Go.Proofs Go.Sort in
theorem swoI {α:Type}(f:α->List Int):SWO (ltOf λa b=>lexI (f a) (f b)) where
 irrefl a:=by
  have:=(lexI_zero (xs:=f a)).2 rfl
  show decide (lexI (f a) (f a)<0)=false
  rw[this];rfl
 trans a b z h1 h2:=by
  unfold ltOf at *
  simp only[decide_eq_true_eq]at *
  exact lexI_trans h1 h2
 ntrans a b z h1 h2:=by
  unfold ltOf at *
  simp only[decide_eq_false_iff_not]at *
  have c:=leI_trans (f z) (f b) (f a) (by unfold leI;have:=lexI_neg (f b) (f z);simp only[decide_eq_true_eq];omega) (by unfold leI;have:=lexI_neg (f a) (f b);simp only[decide_eq_true_eq];omega)
  unfold leI at c
  have:=lexI_neg (f a) (f z)
  simp only[decide_eq_true_eq]at c
  omega
variable {J:Col}{w:World}{F:Nat->Prop}
structure Wd (w:World) (F:Nat->Prop) where
 b:Nat
 o:Nat
 c:Nat
 xs:List Int
 sl:Sl (Rp.int .i64) F w (some ⟨b,o,none⟩) c xs
 ne:xs≠[]
def Wd.enc (t:Wd w F):Value:= .slice (some ⟨t.b,t.o,none⟩) t.xs.length t.c
theorem Wd.hb (t:Wd w F):F t.b:=by
 obtain⟨e,f,b⟩:=t.sl
 rcases b with ⟨a,_⟩|⟨d,g,a,c,_⟩
 .exact absurd a t.ne
 .cases a;exact c
theorem Wd.hc (t:Wd w F) (j:Nat) (c:j<t.xs.length):w.cell? ⟨t.b,t.o+j,none⟩=some (.int .i64 t.xs[j]!):=by
 obtain⟨k,l,e⟩:=t.sl
 rcases e with ⟨a,_⟩|⟨i,n,a,m,f⟩
 .exact absurd a t.ne
 .cases a
  obtain⟨d,g,b⟩:=f j t.xs[j]! (by rw[getElem!_pos t.xs j c];exact ct c)
  have b:d=[.int .i64 t.xs[j]!]:=b
  have:=g 0 (.int .i64 t.xs[j]!) (by rw[b];rfl)
  rwa [show t.o+j * (Rp.int .i64).size+0=t.o+j from by show t.o+j * 1+0=_;omega]at this
theorem Wd.hl (t:Wd w F):t.xs.length<=9223372036854775807:=by
 have b:=t.sl.1
 have a:=t.sl.2.1
 unfold maxLen at a
 omega
theorem vv {T:TypeId}:∀{xs:List (List Int)}{S:Nat->Prop}{cells:List Value},(∀d∈xs,d≠[])->LstO (Ep.fz (Rp.sl (Rp.int .i64))) F w S cells xs->∃b:List (Wd w F),cells=b.map Wd.enc/\b.map Wd.xs=xs
 | [],_,_,_,h=>⟨[],h,rfl⟩
 |x::r,S,cells,hne,⟨c1,c2,S1,S2,e,_,_,⟨a,c,e1,b⟩,h2⟩=>by
  obtain⟨n,p,q⟩:=vv (T:=T) (λd l=>hne d (List.mem_cons_of_mem _ l)) h2
  have f:=hne x (List.mem_cons_self ..)
  have m:=b
  obtain⟨s,t,k⟩:=b
  rcases k with ⟨i,_⟩|⟨g,o,j,u,v⟩
  .exact absurd i f
  .subst j
   refine⟨⟨g,o,c,x,m,f⟩::n,?_,by rw[List.map_cons,q]⟩
   rw[e,e1,p];rfl
theorem vM {w':World}{F':Nat->Prop}(b:∀a,F a->F' a/\w'.heap[a]? =w.heap[a]?){S:Nat->Prop}:∀c:List (Wd w F),LstO (Ep.fz (Rp.sl (Rp.int .i64))) F' w' S (c.map Wd.enc) (c.map Wd.xs)
 | []=>rfl
 |t::r=>⟨[t.enc],r.map Wd.enc,λ_=>False,S,rfl,λ_ h=>h.elim,λ_ h=>h,⟨_,t.c,rfl,t.sl.st b⟩,vM b r⟩
theorem A5 {α:Type} [Inhabited α] (d:Array α) (i:Nat) (h:i<d.size):d.toList[i]? =some d[i]! :=by
 rw[Fl,getElem!_pos d i h];exact Hn h
open Go.Proofs Go.Sort in
theorem Ce {P:Program}{f g:FuncId}{T:TypeId}
 (aF:∀(X ak n c Y al m d:Nat) (xs ys:List Int) (w:World),xs.length=n->ys.length=m->n<=9223372036854775807->m<=9223372036854775807->(∀a,a<n->w.cell? ⟨X,ak+a,none⟩=some (.int .i64 xs[a]!))->(∀a,a<m->w.cell? ⟨Y,al+a,none⟩=some (.int .i64 ys[a]!))->Calls P g #[.slice (some ⟨X,ak,none⟩) n c,.slice (some ⟨Y,al,none⟩) m d] w λo t=>o= .returned (.int .i64 (lexI xs ys))/\t=w)
 (az:∀(p:Option Addr) (Q:Nat) (ar:Value) (w:World),Calls P f #[.slice p 0 Q,ar] w λo t=>o= .returned (.tuple #[])/\t=w)
 (aw:∀{α:Type} [Inhabited α] (G:α->Value) (H:∀j,(G j).oneCell'=true) (R:α->α->Int) (aX:SWO (ltOf R)) (A off Q:Nat) (d:Array α) (w:World),CmpLays1 P g #[] G R A off d.size w->Holds G w A off d->A<w.heap.size->d.size<4611686018427387904->Calls P f #[.slice (some ⟨A,off,none⟩) d.size Q,.func (.func g) #[] #[]] w λo t=>o= .returned (.tuple #[])/\∃e n u,PermIn 0 d.size d e/\SortedIn (ltOf R) 0 d.size e/\t=sortWorld G w A off n e u)
 {F:Option Addr} {E:Nat} {p0:List (List Int)} (aa:Oc (Ep.fz (Rp.sl (Rp.int .i64))) T J w 2 F E p0) (au:p0.length<4611686018427387904) (H:∀aT∈p0,aT≠[]):
 Ret P f [.slice F p0.length E,.func (.func g) #[] #[]] w (λaV t=>∃(am:Col),aV= .tuple #[]/\Ent J w am t/\Oc (Ep.fz (Rp.sl (Rp.int .i64))) T am t 2 F E (p0.mergeSort leI)/\p0.length=(p0.mergeSort leI).length):=by
 have D:(p0.mergeSort leI).length=p0.length:=List.length_mergeSort ..
 by_cases aj:p0=[]
 .subst aj
  refine Calls.mono (az F E _ w) λZ t ⟨C,v⟩=>⟨_,C,J,rfl,?_,?_,D.symm⟩
  .rw[v];exact Ent.refl _ _
  .rw[v,show([]:List (List Int)).mergeSort leI=[] from List.length_eq_zero_iff.1 D];exact aa
 have a0:0<p0.length:=List.length_pos_iff.2 aj
 obtain⟨an,⟨aD,aN⟩,aB,aM⟩:=aa
 obtain⟨i,aC,ai⟩:=vv (T:=T) H aM
 rcases aN with ⟨_,o,_⟩|⟨k,q,x,o,S,aZ,aE,ag,ah⟩
 .omega
 subst o
 have N:(Ep.fz (Rp.sl (Rp.int .i64))).size=1:=rfl
 rw[N,hV]at aD ah ag
 obtain⟨L,aG⟩:=aB k rfl
 have W:J k=2:=by simpa using aG
 have af:i.length=p0.length:=by rw[← ai,List.length_map]
 obtain⟨aU,a1⟩:∃r:Wd w (Zl J w [0]),r∈i:=by
  cases i with
  |nil=>simp at af;omega
  |cons r a2=>exact⟨r,List.mem_cons_self ..⟩
 letI:Inhabited (Wd w (Zl J w [0])):=⟨aU⟩
 have aA:∀a,a<p0.length->x[q+a]? =some (Wd.enc i[a]!):=λa l=>by
  have I:an[a]? =some (Wd.enc i[a]!):=by
   rw[aC,List.getElem?_map,ct (by omega),getElem!_pos i a (by omega)];rfl
  rw[← ah,List.getElem?_take,if_pos l,List.getElem?_drop]at I
  rw[← Fl]
  exact I
 have z:i.toArray.size=p0.length:=by simpa using af
 have ax:Holds Wd.enc w k q i.toArray:=λa l=>by
  have l:a<p0.length:=by rw[← z];exact l
  have ao:i.toArray[a]! =i[a]! :=by
   rw[getElem!_pos _ a (by rw[z];exact l),getElem!_pos i a (by omega)];simp
  rw[ao]
  refine⟨?_,?_⟩
  .simp only[World.cell?,S]
   exact aA a l
  .simp only[World.frozen?,S]
   simp
 have ad:∀(m:Nat) (u:Array Obj) (B:Array (Wd w (Zl J w [0]))) (b:Nat),Zl J w [0] b->(sortWorld Wd.enc w k q m B u).heap[b]? =w.heap[b]?:=λm u B b ⟨K,M⟩=>by
  have U:k≠b:=λo=>by rw[← o,W]at M;simp at M
  simp only[sortWorld,Hm,bP,bJ,bI]
  rw[Hl (by simpa using K),Ho,if_neg U]
 have ay:CmpLays1 P g #[] Wd.enc (λj s=>lexI j.xs s.xs) k q i.toArray.size w:=λm u B _ j s=>by
  have ab:∀(r:Wd w (Zl J w [0])) a,a<r.xs.length->(sortWorld Wd.enc w k q m B u).cell? ⟨r.b,r.o+a,none⟩=some (.int .i64 r.xs[a]!):=λr a l=>by
   rw[World.cell?_of_block (w:=w) (ad m u B r.b r.hb)]
   exact r.hc a l
  refine(aF j.b j.o _ j.c s.b s.o _ s.c j.xs s.xs _ rfl rfl j.hl s.hl (ab j) (ab s)).mono λZ t ⟨C,v⟩=>⟨C,0,#[],?_⟩
  rw[v]
  simp[Hm,World.drewN]
 have ac:=aw Wd.enc (λj=>rfl) (λj s=>lexI j.xs s.xs) (swoI Wd.xs) k q E i.toArray w ay ax L (by rw[z];exact au)
 rw[z]at ac
 refine Calls.mono ac λZ t ⟨C,e,n,u,aO,aQ,v⟩=>⟨_,C,λb=>bif Nat.blt b w.heap.size then J b else 2,rfl,?_,?_,D.symm⟩
 .subst v
  refine⟨rfl,rfl,rfl,?_,λb K M=>⟨oY (Nat.ble_eq.mpr K),?_⟩⟩
  .simp[sortWorld,Hm,bP,bJ,bI]
  .have U:k≠b:=λo=>by rw[← o,W]at M;omega
   simp only[sortWorld,Hm,bP,bJ,bI]
   rw[Hl (by simpa using K),Ho,if_neg U]
 · -- the words of the row now
   obtain⟨V,_,ae⟩:=aO
   rw[z]at V
   have ap:e.extract 0 p0.length=e:=by rw[← V];exact Array.extract_size
   have aq:i.toArray.extract 0 p0.length=i.toArray:=by rw[← z];exact Array.extract_size
   rw[ap,aq]at ae
   have aP:e.toList.Perm i:=ae
   have aS:e.toList.map Wd.xs=p0.mergeSort leI:=by
    refine List.Perm.eq_of_pairwise (le:=λj s=>leI j s=true) (λaW b _ _ H I=>leI_anti H I) ?_ (List.pairwise_mergeSort leI_trans leI_total _) ?_
    .rw[List.pairwise_map,List.pairwise_iff_getElem]
     intro O a aI l aK
     have aJ:O<e.size:=by simpa using aI
     have aL:a<e.size:=by simpa using l
     have:=aQ O a (Nat.zero_le _) aK (by omega)
     rw[getElem!_pos e O aJ,getElem!_pos e a aL]at this
     unfold ltOf at this
     simp only[decide_eq_false_iff_not]at this
     have aY:=lexI_neg e[O].xs e[a].xs
     unfold leI
     simp only[Array.getElem_toList,decide_eq_true_eq]
     omega
    .refine((aP.map Wd.xs).trans ?_).trans (List.mergeSort_perm _ _).symm
     rw[ai]
   subst v
   have aH:(sortWorld Wd.enc w k q n e u).heap[k]? =some (.cells (bL Wd.enc q e x) T (0,0)):=by
    simp only[sortWorld,Hm,bP,bJ,bI]
    rw[Hl (by simpa using L),Ho,if_pos rfl,S]
    rfl
   have aR:(bL Wd.enc q e x).size=x.size:=by simp[bL]
   refine⟨e.toList.map Wd.enc,⟨by rw[List.length_map,N,hV,D,Array.length_toList,V],.inr ⟨k,q,_,rfl,aH,by omega,aE,by rw[aR,N,hV];exact ag,?_⟩⟩,λb y=>?_,?_⟩
   .rw[N,hV,D]
    apply List.ext_getElem?
    intro a
    rw[List.getElem?_take,List.getElem?_map]
    by_cases l:a<p0.length
    .rw[if_pos l,List.getElem?_drop,Fl]
     simp only[bL,Array.getElem?_mapIdx]
     have av:x[q+a]? =some (x[q+a]'(by omega)):=Hn (by omega)
     rw[av,Option.map_some,if_pos ⟨by omega,by omega⟩,Nat.add_sub_cancel_left,A5 e a (by omega)]
     rfl
    .rw[if_neg l,List.getElem?_eq_none (by simp;omega)];rfl
   .have:b=k:=by simpa [nb] using y
    subst this
    refine⟨Nat.lt_of_lt_of_le L ?_,?_⟩
    .simp[sortWorld,Hm,bP,bJ,bI]
    .show(bif Nat.blt b w.heap.size then J b else 2)∈[2]
     rw[show Nat.blt b w.heap.size=true from Nat.ble_eq.mpr L,cond_true,W];simp
   .rw[← aS]
    refine vM (λb y=>⟨⟨?_,?_⟩,ad n u e b y⟩) e.toList
    .refine Nat.lt_of_lt_of_le y.1 ?_
     simp[sortWorld,Hm,bP,bJ,bI]
    .show(bif Nat.blt b w.heap.size then J b else 2)∈[0]
     rw[show Nat.blt b w.heap.size=true from Nat.ble_eq.mpr y.1,cond_true];exact y.2
end
end Go.Wk
