/- Sorting an own slice of numbers: the kit's contract in this frame. -/
import Derived.Test.YtgbippnfaoedmaaGreatDoorFbBG
import Derived.Sort.Grow
set_option linter.unusedVariables false
set_option linter.unusedSimpArgs false
open Array renaming getElem?_append_left → AQ
open Go.Sort renaming ahead → aQ, grow → AR, mapBlock → b8, putCells → cf, putRow → ct
open List renaming getD_eq_getElem?_getD → mz, getElem?_eq_getElem → nx
open Nat renaming mul_one → pb
namespace Go.Wk
open Go
section
variable {J:Col}{w:World}
theorem kO {k:IntKind}{F:Nat->Prop}:∀{xs:List Int}{S:Nat->Prop}{cells:List Value},LstO (Ep.int k) F w S cells xs↔cells=xs.map (Value.int k)
 | [],_,_=>Iff.rfl
 |x::r,S,cells=>by
  constructor
  .rintro⟨c,g,e,f,a,_,_,b,d⟩
   have b:c=[.int k x]:=b
   rw[a,b,kO.1 d];rfl
  .intro a
   exact⟨[.int k x],r.map (Value.int k),λ_=>False,λ_=>False,a,λ_ h=>h.elim,λ_ h=>h.elim,rfl,kO.2 rfl⟩
theorem wH {P:Program}{f:FuncId}{T:TypeId}
 (L:∀(m off E:Nat) (q:List Int) (w:World),Go.Sort.Holds (Value.int .i64) w m off q.toArray->m<w.heap.size->q.length<4611686018427387904 ->
  Calls P f #[.slice (some ⟨m,off,none⟩) q.length E] w λk l=>k= .returned (.tuple #[])/\∃t u,l=AR (ct (Value.int .i64) (aQ w t) m off (q.mergeSort λg i=>decide (g<=i)).toArray) u)
 {r:Option Addr} {p:Nat} {p0:List Int} (H:Oc (Ep.int .i64) T J w 2 r p p0) (af:0<p0.length) (I:p0.length<4611686018427387904):
 Ret P f [.slice r p0.length p] w (λad l=>∃(D:Col),ad= .tuple #[]/\Ent J w D l/\Oc (Ep.int .i64) T D l 2 r p (p0.mergeSort λg i=>decide (g<=i))/\p0.length=(p0.mergeSort λg i=>decide (g<=i)).length):=by
 obtain⟨F,⟨S,ab⟩,O,Z⟩:=H
 have R:=kO.1 Z
 rcases ab with ⟨_,k,_⟩|⟨d,e,j,k,s,ag,U,A,B⟩
 .omega
 subst k
 have o:(Ep.int .i64).size=1:=rfl
 rw[o,pb]at S B A
 obtain⟨n,W⟩:=O d rfl
 have z:J d=2:=by simpa using W
 have N:∀a,a<p0.length->j[e+a]? =some (Value.int .i64 (p0.getD a 0)):=λa b=>by
  have v:F[a]? =some (Value.int .i64 (p0.getD a 0)):=by
   rw[R,List.getElem?_map,nx b,mz,nx b];rfl
  rw[← B,List.getElem?_take,if_pos b,List.getElem?_drop]at v
  rw[← Array.getElem?_toList]
  exact v
 have M:Go.Sort.Holds (Value.int .i64) w d e p0.toArray:=λa b=>by
  have b:a<p0.length:=by simpa using b
  have G:p0.toArray[a]! =p0.getD a 0:=by
   rw[getElem!_pos _ a (by simpa using b),mz,nx b];simp
  rw[G]
  refine⟨?_,?_⟩
  .simp only[World.cell?,s]
   exact N a b
  .simp only[World.frozen?,s]
   simp
 have y:(p0.mergeSort λg i=>decide (g<=i)).length=p0.length:=List.length_mergeSort ..
 refine Calls.mono (L d e p p0 w M n I) λae l ⟨V,t,u,C⟩=>⟨_,V,λc=>bif Nat.blt c w.heap.size then J c else 2,rfl,?_,?_,y.symm⟩
 .subst C
  refine⟨rfl,rfl,rfl,?_,λc x Y=>⟨lS (Nat.ble_eq.mpr x),?_⟩⟩
  .simp[AR,ct,b8,aQ]
  .have aa:d≠c:=λk=>by rw[← k,z]at Y;omega
   simp only[AR,ct,b8,aQ]
   rw[AQ (by simpa using x),Array.getElem?_modify,if_neg aa]
 .subst C
  generalize hS:(p0.mergeSort λg i=>decide (g<=i))=ys at y ⊢
  have X:(AR (ct (Value.int .i64) (aQ w t) d e ys.toArray) u).heap[d]? =some (.cells (cf (Value.int .i64) e ys.toArray j) T (0,0)):=by
   simp only[AR,ct,b8,aQ]
   rw[AQ (by simpa using n),Array.getElem?_modify,if_pos rfl,s]
   rfl
  have ac:(cf (Value.int .i64) e ys.toArray j).size=j.size:=by simp[cf]
  refine⟨ys.map (Value.int .i64),⟨by rw[List.length_map,o,pb],.inr ⟨d,e,_,rfl,X,by omega,U,by rw[ac,o,pb];exact A,?_⟩⟩,λc Q=>?_,kO.2 rfl⟩
  .rw[o,pb]
   apply List.ext_getElem?
   intro a
   rw[List.getElem?_take,List.getElem?_map]
   by_cases b:a<ys.length
   .rw[if_pos b,List.getElem?_drop,Array.getElem?_toList]
    simp only[cf,Array.getElem?_mapIdx]
    have K:j[e+a]? =some (j[e+a]'(by omega)):=Array.getElem?_eq_getElem (by omega)
    rw[K,Option.map_some,if_pos ⟨by omega,by simp;omega⟩,Nat.add_sub_cancel_left,getElem!_pos _ a (by simpa using b),nx b]
    simp
   .rw[if_neg b,List.getElem?_eq_none (by omega)];rfl
  .have:c=d:=by simpa [nb] using Q
   subst this
   refine⟨Nat.lt_of_lt_of_le n ?_,?_⟩
   .simp[AR,ct,b8,aQ]
   .show(bif Nat.blt c w.heap.size then J c else 2)∈[2]
    rw[show Nat.blt c w.heap.size=true from Nat.ble_eq.mpr n,cond_true,z];simp
theorem vt {P:Program}{f:FuncId}{T:TypeId}(l:∀(p:Option Addr) (g:Nat) (w:World),Calls P f #[.slice p 0 g] w λi a=>i= .returned (.tuple #[])/\a=w)
 {b:Option Addr} {c:Nat} {p0:List Int} (j:Oc (Ep.int .i64) T J w 2 b c p0) (k:p0.length=0):
 Ret P f [.slice b p0.length c] w (λn a=>∃(e:Col),n= .tuple #[]/\Ent J w e a/\Oc (Ep.int .i64) T e a 2 b c p0/\p0.length=p0.length):=by
 rw[k]
 refine Calls.mono (l b c w) λo a ⟨m,d⟩=>⟨_,m,J,rfl,?_,?_,rfl⟩
 .rw[d];exact Ent.refl _ _
 .rw[d];exact j
end
end Go.Wk
