/- Sorting an own slice of words that are only read: the kit's contract of slices.SortFunc in this frame. -/
import Derived.Test.YtleekpaohfpooaaGreatFbFW
import Derived.Test.YtleekpaohfpooaaGreatCmpFW
import Derived.Shelf.SlSortCmp.Whole1
set_option linter.unusedVariables false
set_option linter.unusedSimpArgs false
namespace Go.Wk
open Go
open Go.Proofs Go.Sort in
theorem swoI {α:Type}(f:α->List Int):SWO (ltOf λx y=>lexI (f x) (f y)) where
 irrefl x:=by
  have:=(lexI_zero (xs:=f x)).2 rfl
  show decide (lexI (f x) (f x)<0)=false
  rw[this];rfl
 trans x y z h1 h2:=by
  unfold ltOf at *
  simp only[decide_eq_true_eq]at *
  exact lexI_trans h1 h2
 ntrans x y z h1 h2:=by
  unfold ltOf at *
  simp only[decide_eq_false_iff_not]at *
  have a:=leI_trans (f z) (f y) (f x) (by unfold leI;have:=lexI_neg (f y) (f z);simp only[decide_eq_true_eq];omega) (by unfold leI;have:=lexI_neg (f x) (f y);simp only[decide_eq_true_eq];omega)
  unfold leI at a
  have:=lexI_neg (f x) (f z)
  simp only[decide_eq_true_eq]at a
  omega
variable {κ:Col}{w:World}{F:Nat->Prop}
structure Wd (w:World) (F:Nat->Prop) where
 b:Nat
 o:Nat
 c:Nat
 xs:List Int
 sl:Sl (Rp.int .i64) F w (some ⟨b,o,none⟩) c xs
 ne:xs≠[]
def Wd.enc (t:Wd w F):Value:= .slice (some ⟨t.b,t.o,none⟩) t.xs.length t.c
theorem Wd.hb (t:Wd w F):F t.b:=by
 obtain⟨h1,h2,a⟩:=t.sl
 rcases a with ⟨e,_⟩ | ⟨b,o,e,hb,_⟩
 · exact absurd e t.ne
 · cases e;exact hb
theorem Wd.hc (t:Wd w F) (j:Nat) (hj:j<t.xs.length):w.cell? ⟨t.b,t.o+j,none⟩=some (.int .i64 t.xs[j]!):=by
 obtain⟨h1,h2,c⟩:=t.sl
 rcases c with ⟨e,_⟩ | ⟨b,o,e,hb,d⟩
 · exact absurd e t.ne
 · cases e
   obtain⟨cs,k1,a⟩:=d j t.xs[j]! (by rw[getElem!_pos t.xs j hj];exact List.getElem?_eq_getElem hj)
   have a:cs=[.int .i64 t.xs[j]!]:=a
   have:=k1 0 (.int .i64 t.xs[j]!) (by rw[a];rfl)
   rwa [show t.o+j * (Rp.int .i64).size+0=t.o+j from by show t.o+j * 1+0=_;omega]at this
theorem Wd.hl (t:Wd w F):t.xs.length<=9223372036854775807:=by
 have h1:=t.sl.1
 have h2:=t.sl.2.1
 unfold maxLen at h2
 omega
theorem qO {T:TypeId}:∀{xs:List (List Int)}{S:Nat->Prop}{cells:List Value},(∀l∈xs,l≠[])->LstO (Ep.fz (Rp.sl (Rp.int .i64))) F w S cells xs->∃hs:List (Wd w F),cells=hs.map Wd.enc/\hs.map Wd.xs=xs
 | [],_,_,_,h=>⟨[],h,rfl⟩
 | x::r,S,cells,hne,⟨c1,c2,S1,S2,e,_,_,⟨a,c,e1,hs⟩,h2⟩=>by
  obtain⟨j,k,m⟩:=qO (T:=T) (λl hl=>hne l (List.mem_cons_of_mem _ hl)) h2
  have hx:=hne x (List.mem_cons_self ..)
  have i:=hs
  obtain⟨n,p,g⟩:=hs
  rcases g with ⟨d,_⟩ | ⟨b,o,f,hb,q⟩
  · exact absurd d hx
  · subst f
    refine⟨⟨b,o,c,x,i,hx⟩::j,?_,by rw[List.map_cons,m]⟩
    rw[e,e1,k];rfl
theorem rf {w':World}{F':Nat->Prop}(a:∀b,F b->F' b/\w'.heap[b]? =w.heap[b]?){S:Nat->Prop}:∀hs:List (Wd w F),LstO (Ep.fz (Rp.sl (Rp.int .i64))) F' w' S (hs.map Wd.enc) (hs.map Wd.xs)
 | []=>rfl
 | t::r=>⟨[t.enc],r.map Wd.enc,λ_=>False,S,rfl,λ_ h=>h.elim,λ_ h=>h,⟨_,t.c,rfl,t.sl.st a⟩,rf a r⟩
theorem wb {α:Type} [Inhabited α] (d:Array α) (i:Nat) (h:i<d.size):d.toList[i]? =some d[i]! :=by
 rw[Array.getElem?_toList,getElem!_pos d i h];exact Array.getElem?_eq_getElem h
open Go.Proofs Go.Sort in
theorem xp {P:Program}{f g:FuncId}{T:TypeId}
 (ax:∀(U ag n c V ah m d:Nat) (xs ys:List Int) (w:World),xs.length=n->ys.length=m->n<=9223372036854775807->m<=9223372036854775807->(∀j,j<n->w.cell? ⟨U,ag+j,none⟩=some (.int .i64 xs[j]!))->(∀j,j<m->w.cell? ⟨V,ah+j,none⟩=some (.int .i64 ys[j]!))->Calls P g #[.slice (some ⟨U,ag,none⟩) n c,.slice (some ⟨V,ah,none⟩) m d] w λe w'=>e= .returned (.int .i64 (lexI xs ys))/\w'=w)
 (aq:∀(p:Option Addr) (M:Nat) (am:Value) (w:World),Calls P f #[.slice p 0 M,am] w λe w'=>e= .returned (.tuple #[])/\w'=w)
 (ao:∀{α:Type} [Inhabited α] (I:α->Value) (h1:∀x,(I x).oneCell'=true) (N:α->α->Int) (aL:SWO (ltOf N)) (C off M:Nat) (d:Array α) (w:World),CmpLays1 P g #[] I N C off d.size w->Holds I w C off d->C<w.heap.size->d.size<4611686018427387904->Calls P f #[.slice (some ⟨C,off,none⟩) d.size M,.func (.func g) #[] #[]] w λe w'=>e= .returned (.tuple #[])/\∃k n s,PermIn 0 d.size d k/\SortedIn (ltOf N) 0 d.size k/\w'=sortWorld I w C off n k s)
 {H:Option Addr} {G:Nat} {p0:List (List Int)} (X:Oc (Ep.fz (Rp.sl (Rp.int .i64))) T κ w 2 H G p0) (h0:p0.length<4611686018427387904) (h1:∀l∈p0,l≠[]):
 Ret P f [.slice H p0.length G,.func (.func g) #[] #[]] w (λv w'=>∃(κ':Col),v= .tuple #[]/\Ent κ w κ' w'/\Oc (Ep.fz (Rp.sl (Rp.int .i64))) T κ' w' 2 H G (p0.mergeSort leI)/\p0.length=(p0.mergeSort leI).length):=by
 have F:(p0.mergeSort leI).length=p0.length:=List.length_mergeSort ..
 by_cases af:p0=[]
 · subst af
   refine Calls.mono (aq H G _ w) λW w' ⟨E,u⟩=>⟨_,E,κ,rfl,?_,?_,F.symm⟩
   · rw[u];exact Ent.refl _ _
   · rw[u,show([]:List (List Int)).mergeSort leI=[] from List.length_eq_zero_iff.1 F];exact X
 have aN:0<p0.length:=List.length_pos_iff.2 af
 obtain⟨ai,⟨av,aF⟩,hb,aE⟩:=X
 obtain⟨hs,au,ae⟩:=qO (T:=T) h1 aE
 rcases aF with ⟨_,e,_⟩ | ⟨q,o,z,e,O,aM,aw,ac,ad⟩
 · omega
 subst e
 have L:(Ep.fz (Rp.sl (Rp.int .i64))).size=1:=rfl
 rw[L,Nat.mul_one]at av ad ac
 obtain⟨K,ay⟩:=hb q rfl
 have S:κ q=2:=by simpa using ay
 have ab:hs.length=p0.length:=by rw[← ae,List.length_map]
 obtain⟨aK,aO⟩:∃t:Wd w (Zl κ w [0]),t∈hs:=by
  cases hs with
  | nil=>simp at ab;omega
  | cons t r=>exact⟨t,List.mem_cons_self ..⟩
 letI:Inhabited (Wd w (Zl κ w [0])):=⟨aK⟩
 have ar:∀j,j<p0.length->z[o+j]? =some (Wd.enc hs[j]!):=λj hj=>by
  have h2:ai[j]? =some (Wd.enc hs[j]!):=by
   rw[au,List.getElem?_map,List.getElem?_eq_getElem (by omega),getElem!_pos hs j (by omega)];rfl
  rw[← ad,List.getElem?_take,if_pos hj,List.getElem?_drop]at h2
  rw[← Array.getElem?_toList]
  exact h2
 have B:hs.toArray.size=p0.length:=by simpa using ab
 have ap:Holds Wd.enc w q o hs.toArray:=λj hj=>by
  have hj:j<p0.length:=by rw[← B];exact hj
  have aj:hs.toArray[j]! =hs[j]! :=by
   rw[getElem!_pos _ j (by rw[B];exact hj),getElem!_pos hs j (by omega)];simp
  rw[aj]
  refine⟨?_,?_⟩
  · simp only[World.cell?,O]
    exact ar j hj
  · simp only[World.frozen?,O]
    simp
 have Z:∀(m:Nat) (s:Array Obj) (D:Array (Wd w (Zl κ w [0]))) (b:Nat),Zl κ w [0] b->(sortWorld Wd.enc w q o m D s).heap[b]? =w.heap[b]?:=λm s D b ⟨J,hk⟩=>by
  have Q:q≠b:=λe=>by rw[← e,S]at hk;simp at hk
  simp only[sortWorld,Go.Sort.grow,Go.Sort.putRow,Go.Sort.mapBlock,Go.Sort.ahead]
  rw[Array.getElem?_append_left (by simpa using J),Array.getElem?_modify,if_neg Q]
 have hL:CmpLays1 P g #[] Wd.enc (λx y=>lexI x.xs y.xs) q o hs.toArray.size w:=λm s D _ x y=>by
  have hc:∀(t:Wd w (Zl κ w [0])) j,j<t.xs.length->(sortWorld Wd.enc w q o m D s).cell? ⟨t.b,t.o+j,none⟩=some (.int .i64 t.xs[j]!):=λt j hj=>by
   rw[World.cell?_of_block (w:=w) (Z m s D t.b t.hb)]
   exact t.hc j hj
  refine(ax x.b x.o _ x.c y.b y.o _ y.c x.xs y.xs _ rfl rfl x.hl y.hl (hc x) (hc y)).mono λW w' ⟨E,u⟩=>⟨E,0,#[],?_⟩
  rw[u]
  simp[Go.Sort.grow,World.drewN]
 have Y:=ao Wd.enc (λx=>rfl) (λx y=>lexI x.xs y.xs) (swoI Wd.xs) q o G hs.toArray w hL ap K (by rw[B];exact h0)
 rw[B]at Y
 refine Calls.mono Y λW w' ⟨E,k,n,s,hp,aH,u⟩=>⟨_,E,λb=>bif Nat.blt b w.heap.size then κ b else 2,rfl,?_,?_,F.symm⟩
 · subst u
   refine⟨rfl,rfl,rfl,?_,λb J hk=>⟨oR (Nat.ble_eq.mpr J),?_⟩⟩
   · simp[sortWorld,Go.Sort.grow,Go.Sort.putRow,Go.Sort.mapBlock,Go.Sort.ahead]
   · have Q:q≠b:=λe=>by rw[← e,S]at hk;omega
     simp only[sortWorld,Go.Sort.grow,Go.Sort.putRow,Go.Sort.mapBlock,Go.Sort.ahead]
     rw[Array.getElem?_append_left (by simpa using J),Array.getElem?_modify,if_neg Q]
 · -- the words of the row now
   obtain⟨R,_,aa⟩:=hp
   rw[B]at R
   have ak:k.extract 0 p0.length=k:=by rw[← R];exact Array.extract_size
   have al:hs.toArray.extract 0 p0.length=hs.toArray:=by rw[← B];exact Array.extract_size
   rw[ak,al]at aa
   have aG:k.toList.Perm hs:=aa
   have aJ:k.toList.map Wd.xs=p0.mergeSort leI:=by
    refine List.Perm.eq_of_pairwise (le:=λx y=>leI x y=true) (λa b _ _ h1 h2=>leI_anti h1 h2) ?_ (List.pairwise_mergeSort leI_trans leI_total _) ?_
    · rw[List.pairwise_map,List.pairwise_iff_getElem]
      intro i j aA hj aC
      have aB:i<k.size:=by simpa using aA
      have aD:j<k.size:=by simpa using hj
      have:=aH i j (Nat.zero_le _) aC (by omega)
      rw[getElem!_pos k i aB,getElem!_pos k j aD]at this
      unfold ltOf at this
      simp only[decide_eq_false_iff_not]at this
      have hn:=lexI_neg k[i].xs k[j].xs
      unfold leI
      simp only[Array.getElem_toList,decide_eq_true_eq]
      omega
    · refine((aG.map Wd.xs).trans ?_).trans (List.mergeSort_perm _ _).symm
      rw[ae]
   subst u
   have az:(sortWorld Wd.enc w q o n k s).heap[q]? =some (.cells (Go.Sort.putCells Wd.enc o k z) T (0,0)):=by
    simp only[sortWorld,Go.Sort.grow,Go.Sort.putRow,Go.Sort.mapBlock,Go.Sort.ahead]
    rw[Array.getElem?_append_left (by simpa using K),Array.getElem?_modify,if_pos rfl,O]
    rfl
   have aI:(Go.Sort.putCells Wd.enc o k z).size=z.size:=by simp[Go.Sort.putCells]
   refine⟨k.toList.map Wd.enc,⟨by rw[List.length_map,L,Nat.mul_one,F,Array.length_toList,R],.inr ⟨q,o,_,rfl,az,by omega,aw,by rw[aI,L,Nat.mul_one];exact ac,?_⟩⟩,λb A=>?_,?_⟩
   · rw[L,Nat.mul_one,F]
     apply List.ext_getElem?
     intro j
     rw[List.getElem?_take,List.getElem?_map]
     by_cases hj:j<p0.length
     · rw[if_pos hj,List.getElem?_drop,Array.getElem?_toList]
       simp only[Go.Sort.putCells,Array.getElem?_mapIdx]
       have an:z[o+j]? =some (z[o+j]'(by omega)):=Array.getElem?_eq_getElem (by omega)
       rw[an,Option.map_some,if_pos ⟨by omega,by omega⟩,Nat.add_sub_cancel_left,wb k j (by omega)]
       rfl
     · rw[if_neg hj,List.getElem?_eq_none (by simp;omega)];rfl
   · have:b=q:=by simpa [nb] using A
     subst this
     refine⟨Nat.lt_of_lt_of_le K ?_,?_⟩
     · simp[sortWorld,Go.Sort.grow,Go.Sort.putRow,Go.Sort.mapBlock,Go.Sort.ahead]
     · show(bif Nat.blt b w.heap.size then κ b else 2)∈[2]
       rw[show Nat.blt b w.heap.size=true from Nat.ble_eq.mpr K,cond_true,S];simp
   · rw[← aJ]
     refine rf (λb A=>⟨⟨?_,?_⟩,Z n s k b A⟩) k.toList
     · refine Nat.lt_of_lt_of_le A.1 ?_
       simp[sortWorld,Go.Sort.grow,Go.Sort.putRow,Go.Sort.mapBlock,Go.Sort.ahead]
     · show(bif Nat.blt b w.heap.size then κ b else 2)∈[0]
       rw[show Nat.blt b w.heap.size=true from Nat.ble_eq.mpr A.1,cond_true];exact A.2
end Go.Wk
