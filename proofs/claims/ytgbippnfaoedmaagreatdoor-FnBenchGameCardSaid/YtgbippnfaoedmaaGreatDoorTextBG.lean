/- Functions of strings and strconv: the kit's contracts in this frame. -/
import Derived.Test.YtgbippnfaoedmaaGreatDoorStrBG
import Derived.Sort.Grow
import Derived.Lib.LaidTab
import Derived.Lib.ItoaNum
import Derived.Lib.Join
import Derived.Lib.IndexMore
import Derived.Lib.Split
import Derived.Lib.Replace
import Derived.Shelf.Strings.Split
import Derived.Below
set_option linter.unusedVariables false
set_option linter.unusedSimpArgs false
open Go.Sort renaming grow → AR
namespace Go.Wk
open Go
section
variable {J:Col}{w:World}{P:Program}{f:FuncId}
def Tb (P:Program) (name:String) (k:IntKind) (b:List Int) (J:Col) (w:World):Prop:=Lib.TabIs P w name k b/\∀a,P.globalNamed name=some a->a<w.heap.size/\J a=0
theorem Tb.to {name:String}{k:IntKind}{f:List Int}{g:Col}{w':World}(h:Tb P name k f J w) (e:∀a,a<w.heap.size->J a=0->a<w'.heap.size/\g a=0/\w'.heap[a]? =w.heap[a]?):Tb P name k f g w':=by
 obtain⟨d,c⟩:=h
 refine⟨?_,λa b=>⟨(e a (c a b).1 (c a b).2).1,(e a (c a b).1 (c a b).2).2.1⟩⟩
 unfold Lib.TabIs World.var? at d ⊢
 cases b:P.globalNamed name with
 |none=>simp[b]at d
 |some a=>
  simp only[b,Option.bind_some]at d ⊢
  rw[(e a (c a b).1 (c a b).2).2.2]
  exact d
theorem Tb.stp {name:String}{k:IntKind}{b:List Int}{X:List Nat}{c:Col}{w':World}(h:Tb P name k b J w) (s:Stp X J w c w') (e:nin X 0=true:=by exact rfl) (_:nin X 0=true:=by exact rfl):Tb P name k b c w':=
 h.to λd i a=>by
  have j:=s.size
  obtain⟨f,g⟩:=s.keep d i (by rw[a];exact cg.1 e)
  exact⟨by omega,by rw[f,a],g⟩
theorem Tb.map {name:String}{k:IntKind}{b:List Int}(h:Tb P name k b J w) (g:Nat->Nat) (c:g 0=0) (_:g 0=0):Tb P name k b (λa=>g (J a)) w:=
 h.to λa d e=>⟨d,by show g (J a)=0;rw[e,c],rfl⟩
def Vm (a:Nat) (J:Col) (w:World):Prop:=J a=0/\a<w.heap.size/\∃b,w.cell? ⟨a,0,none⟩=some (.int .i64 b)
theorem Vm.stp {a:Nat}{X:List Nat}{c:Col}{w':World}(h:Vm a J w) (s:Stp X J w c w') (d:nin X 0=true:=by exact rfl) (_:nin X 0=true:=by exact rfl):Vm a c w':=by
 obtain⟨b,e,j,f⟩:=h
 have k:=s.size
 obtain⟨g,i⟩:=s.keep a e (by rw[b];exact cg.1 d)
 exact⟨by rw[g,b],by omega,j,by rw[World.cell?_of_block (w:=w) i];exact f⟩
theorem Vm.map {a:Nat}(h:Vm a J w) (g:Nat->Nat) (c:g 0=0) (_:g 0=0):Vm a (λb=>g (J b)) w:=⟨by show g (J a)=0;rw[h.1,c],h.2⟩
theorem tX {w':World}(h:Go.RowKit.Below w.heap.size w w'):Ent J w J w':=⟨h.os,h.tape,h.output,h.size,λa b _=>⟨rfl,h.block a b⟩⟩
def fmtB (n b:Int):Option ByteArray:=if b=10/\ -9223372036854775808<=n/\n<=9223372036854775807 then some ⟨(Lib.itoa n).toArray⟩ else none
theorem xl {name:String}{k:IntKind}{i:List Int}
 (j:∀(n:Int) (c: -9223372036854775808<=n) (d:n<=9223372036854775807) (w:World) (u:Lib.TabIs P w name k i),Calls P f #[.int .i64 n,.int .i64 10] w λb a=>b= .returned (.string ⟨(Lib.itoa n).toArray⟩)/\∃k e,a=AR (w.drewN k) e)
 (g:Tb P name k i J w) {p0 p1:Int} {r:ByteArray} (h:fmtB p0 p1=some r):Ret P f [.int .i64 p0,.int .i64 p1] w (λq a=>∃(s:Col),q= .string r/\Ent J w s a):=by
 unfold fmtB at h
 split at h
 .rename_i o
  obtain⟨rfl,c,d⟩:=o
  cases h
  refine Calls.mono (j p0 c d w g.1) λb a ⟨m,v,e,p⟩=>⟨_,m,J,rfl,?_⟩
  subst p
  exact⟨rfl,rfl,rfl,by simp[AR],λt l _=>⟨rfl,by
   simp only[AR,World.heap_drewN]
   rw[Array.getElem?_append_left (by simpa using l)]⟩⟩
 .cases h
def joinB (xs:List ByteArray) (a:ByteArray):Option ByteArray:=
 if xs.length<=140737488355328/\(Lib.join (xs.map (·.data.toList)) a.data.toList).length<=140737488355328 then some ⟨(Lib.join (xs.map (·.data.toList)) a.data.toList).toArray⟩ else none
theorem vZ (q:∀(a:Option Addr) (c:Nat) (g:ByteArray) (w:World),Calls P f #[.slice a 0 c,.string g] w λb d=>b= .returned (.string ⟨#[]⟩)/\d=w)
 (C:∀(l o c:Nat) (xs:List ByteArray) (g:ByteArray) (w:World) (N:∀(j:Nat) e,xs[j]? =some e->w.cell? ⟨l,o+j,none⟩=some (.string e)) (L:l<w.heap.size) (q:xs.length<=140737488355328) (M:xs.length<=c) (O:(Lib.join (xs.map (·.data.toList)) g.data.toList).length<=140737488355328),
  Calls P f #[.slice (some ⟨l,o,none⟩) xs.length c,.string g] w λb d=>b= .returned (.string ⟨(Lib.join (xs.map (·.data.toList)) g.data.toList).toArray⟩)/\Go.RowKit.Below w.heap.size w d)
 {k:Option Addr} {i:Nat} {p0:List ByteArray} (v:Rd Rp.str J w 0 k i p0) {p1 r:ByteArray} (h:joinB p0 p1=some r):Ret P f [.slice k p0.length i,.string p1] w (λH d=>∃(I:Col),H= .string r/\Ent J w I d):=by
 unfold joinB at h
 split at h
 .rename_i F
  obtain⟨z,A⟩:=F
  cases h
  obtain⟨x,K,y⟩:=v
  rcases y with ⟨b,_⟩|⟨s,o,b,D,E⟩
  .subst b
   exact Calls.mono (q k i p1 w) λb d ⟨n,p⟩=>⟨_,n,J,rfl,by rw[p];exact Ent.refl _ _⟩
  .subst b
   refine Calls.mono (C s o i p0 p1 w (λj e G=>?_) D.1 z x A) λb d ⟨n,p⟩=>⟨_,n,J,rfl,tX p⟩
   obtain⟨t,B,m⟩:=E j e G
   have m:t=[.string e]:=m
   have:=B 0 (.string e) (by rw[m];rfl)
   have u:Rp.str.size=1:=rfl
   rw[u,Nat.mul_one,Nat.add_zero]at this
   exact this
 .cases h
def tpreB (s p:ByteArray):Option ByteArray:=some ⟨(Lib.trimPrefix s.data.toList p.data.toList).toArray⟩
theorem wI (c:∀(s p:ByteArray) (w:World),Calls P f #[.string s,.string p] w λb a=>b= .returned (.string ⟨(Lib.trimPrefix s.data.toList p.data.toList).toArray⟩)/\a=w)
 {p0 p1 r:ByteArray} (h:tpreB p0 p1=some r):Ret P f [.string p0,.string p1] w (λg a=>∃(i:Col),g= .string r/\Ent J w i a):=by
 cases h
 exact Calls.mono (c p0 p1 w) λb a ⟨d,e⟩=>⟨_,d,J,rfl,by rw[e];exact Ent.refl _ _⟩
def tsufB (s p:ByteArray):Option ByteArray:=if s.size<=9223372036854775807 then some ⟨(Lib.trimSuffix s.data.toList p.data.toList).toArray⟩ else none
theorem wJ (c:∀(s p:ByteArray) (w:World) (k:s.size<=9223372036854775807),Calls P f #[.string s,.string p] w λb a=>b= .returned (.string ⟨(Lib.trimSuffix s.data.toList p.data.toList).toArray⟩)/\a=w)
 {p0 p1 r:ByteArray} (h:tsufB p0 p1=some r):Ret P f [.string p0,.string p1] w (λi a=>∃(j:Col),i= .string r/\Ent J w j a):=by
 unfold tsufB at h
 split at h
 .rename_i e
  cases h
  exact Calls.mono (c p0 p1 w e) λb a ⟨d,g⟩=>⟨_,d,J,rfl,by rw[g];exact Ent.refl _ _⟩
 .cases h
def splitS (s a:ByteArray):Option (List ByteArray):=if s.size<4294967281/\1<=a.size then some (Lib.splitB a 0 (Lib.countB s a) s) else none
theorem tB {F:Nat->Prop}:∀{xs:List ByteArray},LstO Ep.str F w (λ_=>False) (xs.map Value.string) xs
 | []=>rfl
 |x::r=>⟨[.string x],r.map Value.string,λ_=>False,λ_=>False,rfl,λ_ h=>h.elim,λ_ h=>h.elim,rfl,tB⟩
theorem vx {k:Nat}{T:TypeId}(u:∀(s a:ByteArray) (m:Int) (w:World) (B:s.size<4294967281) (n:w.cell? ⟨k,0,none⟩=some (.int .i64 m)) (l:1<=a.size),
 Calls P f #[.string s,.string a] w λd c=>d= .returned (.slice (some ⟨w.heap.size,0,none⟩) (Lib.countB s a+1) (Lib.countB s a+1))/\c=w.alloc (.cells ((Lib.splitB a 0 (Lib.countB s a) s).map Value.string).toArray T))
 (g:Vm k J w) {p0 p1:ByteArray} {r:List ByteArray} (h:splitS p0 p1=some r):Ret P f [.string p0,.string p1] w (λz c=>∃(t:Col) (p:Option Addr) (q:Nat),z= .slice p r.length q/\Ent J w t c/\Oc Ep.str T t c 2 p q r):=by
 unfold splitS at h
 split at h
 .rename_i y
  obtain⟨l,i⟩:=y
  cases h
  obtain⟨_,_,m,n⟩:=g
  have A:=Lib.countB_le p1 i p0.size p0 (Nat.le_refl _)
  have j:=Lib.splitB_all p1 i 0 _ p0 rfl
  refine Calls.mono (u p0 p1 m w l n i) λd c ⟨x,o⟩=>⟨_,x,λb=>bif Nat.blt b w.heap.size then J b else 2,some ⟨w.heap.size,0,none⟩,Lib.countB p0 p1+1,by rw[j],?_,?_⟩
  .subst o
   exact⟨rfl,rfl,rfl,by simp,λb e _=>⟨lS (Nat.ble_eq.mpr e),heap_alloc_old w _ e⟩⟩
  .subst o
   have e:w.heap.size<(w.alloc (.cells ((Lib.splitB p1 0 (Lib.countB p0 p1) p0).map Value.string).toArray T)).heap.size:=by simp
   refine⟨(Lib.splitB p1 0 (Lib.countB p0 p1) p0).map Value.string,⟨by rw[List.length_map];exact(Nat.mul_one _).symm,.inr ⟨w.heap.size,0,_,rfl,heap_alloc_new w _,by rw[j];exact Nat.le_refl _,by unfold maxLen;omega,?_,?_⟩⟩,λb v=>?_,tB.st (λ_ h=>⟨h,rfl⟩) λ_ h=>h.elim⟩
   .show 0+(Lib.countB p0 p1+1) * 1<=_
    simp only[List.size_toArray,List.length_map,j]
    omega
   .show((((Lib.splitB p1 0 (Lib.countB p0 p1) p0).map Value.string).toArray.toList.drop 0).take ((Lib.splitB p1 0 (Lib.countB p0 p1) p0).length * 1))=_
    rw[List.drop_zero,Nat.mul_one]
    exact List.take_of_length_le (by simp)
   .have:b=w.heap.size:=by simpa [nb] using v
    subst this
    refine⟨e,?_⟩
    show(bif Nat.blt w.heap.size w.heap.size then J w.heap.size else 2)∈[2]
    have:Nat.blt w.heap.size w.heap.size=false:=by
     cases d:Nat.blt w.heap.size w.heap.size with
     |false=>rfl
     |true=>exact absurd (Nat.le_of_ble_eq_true d) (by omega)
    rw[this];simp
 .cases h
end
end Go.Wk
