/- Functions of strings and strconv: the kit's contracts in this frame. -/
import Derived.Test.YtldlmopdhmaceaaGreatDoorStrBE
import Derived.Sort.Grow
import Derived.Lib.LaidTab
import Derived.Lib.ItoaNum
import Derived.Lib.Join
import Derived.Lib.IndexMore
import Derived.Lib.Split
import Derived.Lib.Replace
import Derived.Shelf.Strings.Split
import Derived.Below
set_option linter.unusedVariables false
set_option linter.unusedSimpArgs false
open Go.Sort renaming grow → Hm
namespace Go.Wk
open Go
section
variable {J:Col}{w:World}{P:Program}{f:FuncId}
def Tb (P:Program) (name:String) (k:IntKind) (b:List Int) (J:Col) (w:World):Prop:=Lib.TabIs P w name k b/\∀a,P.globalNamed name=some a->a<w.heap.size/\J a=0
theorem Tb.to {name:String}{k:IntKind}{f:List Int}{g:Col}{w':World}(h:Tb P name k f J w) (e:∀a,a<w.heap.size->J a=0->a<w'.heap.size/\g a=0/\w'.heap[a]? =w.heap[a]?):Tb P name k f g w':=by
 obtain⟨d,c⟩:=h
 refine⟨?_,λa b=>⟨(e a (c a b).1 (c a b).2).1,(e a (c a b).1 (c a b).2).2.1⟩⟩
 unfold Lib.TabIs World.var? at d ⊢
 cases b:P.globalNamed name with
 |none=>simp[b]at d
 |some a=>
  simp only[b,Option.bind_some]at d ⊢
  rw[(e a (c a b).1 (c a b).2).2.2]
  exact d
theorem Tb.stp {name:String}{k:IntKind}{b:List Int}{X:List Nat}{c:Col}{w':World}(h:Tb P name k b J w) (s:Stp X J w c w') (e:nin X 0=true:=by exact rfl) (_:nin X 0=true:=by exact rfl):Tb P name k b c w':=
 h.to λd i a=>by
  have j:=s.size
  obtain⟨f,g⟩:=s.keep d i (by rw[a];exact dN.1 e)
  exact⟨by omega,by rw[f,a],g⟩
theorem Tb.map {name:String}{k:IntKind}{b:List Int}(h:Tb P name k b J w) (g:Nat->Nat) (c:g 0=0) (_:g 0=0):Tb P name k b (λa=>g (J a)) w:=
 h.to λa d e=>⟨d,by show g (J a)=0;rw[e,c],rfl⟩
def Vm (a:Nat) (J:Col) (w:World):Prop:=J a=0/\a<w.heap.size/\∃b,w.cell? ⟨a,0,none⟩=some (.int .i64 b)
theorem Vm.stp {a:Nat}{X:List Nat}{c:Col}{w':World}(h:Vm a J w) (s:Stp X J w c w') (d:nin X 0=true:=by exact rfl) (_:nin X 0=true:=by exact rfl):Vm a c w':=by
 obtain⟨b,e,j,f⟩:=h
 have k:=s.size
 obtain⟨g,i⟩:=s.keep a e (by rw[b];exact dN.1 d)
 exact⟨by rw[g,b],by omega,j,by rw[World.cell?_of_block (w:=w) i];exact f⟩
theorem Vm.map {a:Nat}(h:Vm a J w) (g:Nat->Nat) (c:g 0=0) (_:g 0=0):Vm a (λb=>g (J b)) w:=⟨by show g (J a)=0;rw[h.1,c],h.2⟩
theorem vn {w':World}(h:Go.RowKit.Below w.heap.size w w'):Ent J w J w':=⟨h.os,h.tape,h.output,h.size,λa b _=>⟨rfl,h.block a b⟩⟩
def fmtB (n b:Int):Option ByteArray:=if b=10/\ -9223372036854775808<=n/\n<=9223372036854775807 then some ⟨(Lib.itoa n).toArray⟩ else none
theorem DV {name:String}{k:IntKind}{i:List Int}
 (j:∀(n:Int) (c: -9223372036854775808<=n) (d:n<=9223372036854775807) (w:World) (u:Lib.TabIs P w name k i),Calls P f #[.int .i64 n,.int .i64 10] w λb a=>b= .returned (.string ⟨(Lib.itoa n).toArray⟩)/\∃k e,a=Hm (w.drewN k) e)
 (g:Tb P name k i J w) {p0 p1:Int} {r:ByteArray} (h:fmtB p0 p1=some r):Ret P f [.int .i64 p0,.int .i64 p1] w (λq a=>∃(s:Col),q= .string r/\Ent J w s a):=by
 unfold fmtB at h
 split at h
 .rename_i o
  obtain⟨rfl,c,d⟩:=o
  cases h
  refine Calls.mono (j p0 c d w g.1) λb a ⟨m,v,e,p⟩=>⟨_,m,J,rfl,?_⟩
  subst p
  exact⟨rfl,rfl,rfl,by simp[Hm],λt l _=>⟨rfl,by
   simp only[Hm,World.heap_drewN]
   rw[Array.getElem?_append_left (by simpa using l)]⟩⟩
 .cases h
def joinB (xs:List ByteArray) (sep:ByteArray):Option ByteArray:=
 if xs.length<=140737488355328/\(Lib.join (xs.map (·.data.toList)) sep.data.toList).length<=140737488355328 then some ⟨(Lib.join (xs.map (·.data.toList)) sep.data.toList).toArray⟩ else none
theorem CT (p:∀(a:Option Addr) (c:Nat) (sep:ByteArray) (w:World),Calls P f #[.slice a 0 c,.string sep] w λb d=>b= .returned (.string ⟨#[]⟩)/\d=w)
 (B:∀(k o c:Nat) (xs:List ByteArray) (sep:ByteArray) (w:World) (M:∀(j:Nat) e,xs[j]? =some e->w.cell? ⟨k,o+j,none⟩=some (.string e)) (K:k<w.heap.size) (p:xs.length<=140737488355328) (L:xs.length<=c) (N:(Lib.join (xs.map (·.data.toList)) sep.data.toList).length<=140737488355328),
  Calls P f #[.slice (some ⟨k,o,none⟩) xs.length c,.string sep] w λb d=>b= .returned (.string ⟨(Lib.join (xs.map (·.data.toList)) sep.data.toList).toArray⟩)/\Go.RowKit.Below w.heap.size w d)
 {i:Option Addr} {g:Nat} {p0:List ByteArray} (u:Rd Rp.str J w 0 i g p0) {p1 r:ByteArray} (h:joinB p0 p1=some r):Ret P f [.slice i p0.length g,.string p1] w (λG d=>∃(H:Col),G= .string r/\Ent J w H d):=by
 unfold joinB at h
 split at h
 .rename_i E
  obtain⟨y,z⟩:=E
  cases h
  obtain⟨v,I,x⟩:=u
  rcases x with ⟨b,_⟩|⟨q,o,b,C,D⟩
  .subst b
   exact Calls.mono (p i g p1 w) λb d ⟨m,n⟩=>⟨_,m,J,rfl,by rw[n];exact Ent.refl _ _⟩
  .subst b
   refine Calls.mono (B q o g p0 p1 w (λj e F=>?_) C.1 y v z) λb d ⟨m,n⟩=>⟨_,m,J,rfl,vn n⟩
   obtain⟨s,A,l⟩:=D j e F
   have l:s=[.string e]:=l
   have:=A 0 (.string e) (by rw[l];rfl)
   have t:Rp.str.size=1:=rfl
   rw[t,Nat.mul_one,Nat.add_zero]at this
   exact this
 .cases h
def tpreB (s p:ByteArray):Option ByteArray:=some ⟨(Lib.trimPrefix s.data.toList p.data.toList).toArray⟩
theorem Dx (c:∀(s p:ByteArray) (w:World),Calls P f #[.string s,.string p] w λb a=>b= .returned (.string ⟨(Lib.trimPrefix s.data.toList p.data.toList).toArray⟩)/\a=w)
 {p0 p1 r:ByteArray} (h:tpreB p0 p1=some r):Ret P f [.string p0,.string p1] w (λg a=>∃(i:Col),g= .string r/\Ent J w i a):=by
 cases h
 exact Calls.mono (c p0 p1 w) λb a ⟨d,e⟩=>⟨_,d,J,rfl,by rw[e];exact Ent.refl _ _⟩
def tsufB (s p:ByteArray):Option ByteArray:=if s.size<=9223372036854775807 then some ⟨(Lib.trimSuffix s.data.toList p.data.toList).toArray⟩ else none
theorem Dy (c:∀(s p:ByteArray) (w:World) (k:s.size<=9223372036854775807),Calls P f #[.string s,.string p] w λb a=>b= .returned (.string ⟨(Lib.trimSuffix s.data.toList p.data.toList).toArray⟩)/\a=w)
 {p0 p1 r:ByteArray} (h:tsufB p0 p1=some r):Ret P f [.string p0,.string p1] w (λi a=>∃(j:Col),i= .string r/\Ent J w j a):=by
 unfold tsufB at h
 split at h
 .rename_i e
  cases h
  exact Calls.mono (c p0 p1 w e) λb a ⟨d,g⟩=>⟨_,d,J,rfl,by rw[g];exact Ent.refl _ _⟩
 .cases h
def replB (s o n:ByteArray):Option ByteArray:=if s.size<4294967281/\1<=o.size/\s.size+Lib.countB s o * n.size<=140737488355328 then some ⟨(Lib.replaceAll s.data.toList o.data.toList n.data.toList).toArray⟩ else none
theorem Dh {b:Nat}(k:∀(s o n:ByteArray) (m:Int) (w:World) (x:s.size<4294967281) (e:w.cell? ⟨b,0,none⟩=some (.int .i64 m)) (d:1<=o.size) (v:s.size+Lib.countB s o * n.size<=140737488355328),
 Calls P f #[.string s,.string o,.string n] w λc a=>c= .returned (.string ⟨(Lib.replaceAll s.data.toList o.data.toList n.data.toList).toArray⟩)/\Go.RowKit.Below w.heap.size w a)
 (g:Vm b J w) {p0 p1 p2 r:ByteArray} (h:replB p0 p1 p2=some r):Ret P f [.string p0,.string p1,.string p2] w (λt a=>∃(u:Col),t= .string r/\Ent J w u a):=by
 unfold replB at h
 split at h
 .rename_i p
  obtain⟨d,i,j⟩:=p
  cases h
  obtain⟨_,_,m,e⟩:=g
  exact Calls.mono (k p0 p1 p2 m w d e i j) λc a ⟨l,q⟩=>⟨_,l,J,rfl,vn q⟩
 .cases h
def splitS (s sep:ByteArray):Option (List ByteArray):=if s.size<4294967281/\1<=sep.size then some (Lib.splitB sep 0 (Lib.countB s sep) s) else none
theorem z6 {F:Nat->Prop}:∀{xs:List ByteArray},LstO Ep.str F w (λ_=>False) (xs.map Value.string) xs
 | []=>rfl
 |x::r=>⟨[.string x],r.map Value.string,λ_=>False,λ_=>False,rfl,λ_ h=>h.elim,λ_ h=>h.elim,rfl,z6⟩
theorem Ci {j:Nat}{T:TypeId}(t:∀(s sep:ByteArray) (m:Int) (w:World) (A:s.size<4294967281) (l:w.cell? ⟨j,0,none⟩=some (.int .i64 m)) (k:1<=sep.size),
 Calls P f #[.string s,.string sep] w λc b=>c= .returned (.slice (some ⟨w.heap.size,0,none⟩) (Lib.countB s sep+1) (Lib.countB s sep+1))/\b=w.alloc (.cells ((Lib.splitB sep 0 (Lib.countB s sep) s).map Value.string).toArray T))
 (g:Vm j J w) {p0 p1:ByteArray} {r:List ByteArray} (h:splitS p0 p1=some r):Ret P f [.string p0,.string p1] w (λy b=>∃(q:Col) (o:Option Addr) (p:Nat),y= .slice o r.length p/\Ent J w q b/\Oc Ep.str T q b 2 o p r):=by
 unfold splitS at h
 split at h
 .rename_i x
  obtain⟨k,e⟩:=x
  cases h
  obtain⟨_,_,m,l⟩:=g
  have z:=Lib.countB_le p1 e p0.size p0 (Nat.le_refl _)
  have i:=Lib.splitB_all p1 e 0 _ p0 rfl
  refine Calls.mono (t p0 p1 m w k l e) λc b ⟨v,n⟩=>⟨_,v,λa=>bif Nat.blt a w.heap.size then J a else 2,some ⟨w.heap.size,0,none⟩,Lib.countB p0 p1+1,by rw[i],?_,?_⟩
  .subst n
   exact⟨rfl,rfl,rfl,by simp,λa d _=>⟨oY (Nat.ble_eq.mpr d),heap_alloc_old w _ d⟩⟩
  .subst n
   have d:w.heap.size<(w.alloc (.cells ((Lib.splitB p1 0 (Lib.countB p0 p1) p0).map Value.string).toArray T)).heap.size:=by simp
   refine⟨(Lib.splitB p1 0 (Lib.countB p0 p1) p0).map Value.string,⟨by rw[List.length_map];exact(Nat.mul_one _).symm,.inr ⟨w.heap.size,0,_,rfl,heap_alloc_new w _,by rw[i];exact Nat.le_refl _,by unfold maxLen;omega,?_,?_⟩⟩,λa u=>?_,z6.st (λ_ h=>⟨h,rfl⟩) λ_ h=>h.elim⟩
   .show 0+(Lib.countB p0 p1+1) * 1<=_
    simp only[List.size_toArray,List.length_map,i]
    omega
   .show((((Lib.splitB p1 0 (Lib.countB p0 p1) p0).map Value.string).toArray.toList.drop 0).take ((Lib.splitB p1 0 (Lib.countB p0 p1) p0).length * 1))=_
    rw[List.drop_zero,Nat.mul_one]
    exact List.take_of_length_le (by simp)
   .have:a=w.heap.size:=by simpa [nb] using u
    subst this
    refine⟨d,?_⟩
    show(bif Nat.blt w.heap.size w.heap.size then J w.heap.size else 2)∈[2]
    have:Nat.blt w.heap.size w.heap.size=false:=by
     cases c:Nat.blt w.heap.size w.heap.size with
     |false=>rfl
     |true=>exact absurd (Nat.le_of_ble_eq_true c) (by omega)
    rw[this];simp
 .cases h
end
end Go.Wk
