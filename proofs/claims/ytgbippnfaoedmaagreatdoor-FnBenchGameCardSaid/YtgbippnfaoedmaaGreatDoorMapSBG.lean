/- Maps in memory whose values are slices that are written no more; keys of five integers. -/
import Derived.Test.YtgbippnfaoedmaaGreatDoorFbBG
set_option linter.unusedVariables false
set_option linter.unusedSimpArgs false
open List renaming map_cons → yt, mem_cons_of_mem → zd
namespace Go.Wk
open Go
abbrev SHd:=(Option Addr×Nat)×List Int
def vfS (v:SHd):Value:= .slice v.1.1 v.2.length v.1.2
def Mz {K:Type}(wf:K->Bool) (kf:K->Value) (J:Col) (w:World) (i b:Nat) (xs:List (K×List Int)):Prop:=
 ∃c:List (K×SHd),xs=c.map (λa=>(a.1,a.2.2))/\Mc wf kf vfS J w i b c/\∀a∈c,Rd (Rp.int .i64) J w 0 a.2.1.1 a.2.1.2 a.2.2
section
variable {K:Type}{wf:K->Bool}{kf:K->Value}{X:List Nat}{J κ' κ1:Col}{w w' w1:World}{i j b:Nat}{xs:List (K×List Int)}
theorem Mz.stp (h:Mz wf kf J w i b xs) (s:Stp X J w κ' w') (a:nin X 0=true:=by exact rfl) (f:nin X i=true:=by exact rfl):Mz wf kf κ' w' i b xs:=by
 obtain⟨j,c,d,e⟩:=h
 exact⟨j,c,d.stp s a f,λk g=>(e k g).stp s a a⟩
theorem Mz.map (h:Mz wf kf J w i b xs) (g:Nat->Nat) (a:g 0=0) (hi:g i=j):Mz wf kf (λb=>g (J b)) w j b xs:=by
 obtain⟨k,c,d,e⟩:=h
 exact⟨k,c,d.map g a hi,λl f=>(e l f).map g a a⟩
theorem Mz.mxz {base k:Nat}(h:Mz wf kf κ1 w1 k b xs) (m:∀b,b<w1.heap.size->κ1 b=0->κ' b=0) (g:∀b,2<=κ1 b->κ' b=base+κ1 b) (f:Nat.ble 2 k=true) (e:base+k=j):Mz wf kf κ' w1 j b xs:=by
 obtain⟨l,a,c,d⟩:=h
 exact⟨l,a,c.mx' g f e,λn i=>(d n i).mx m⟩
theorem Mz.new (h:Mc wf kf vfS J w i b []):Mz wf kf J w i b []:=⟨[],rfl,h,λ_ a=>nomatch a⟩
variable [DecidableEq K]
omit [DecidableEq K] in
theorem rh [DecidableEq K]:∀(b:List (K×SHd)) (k:K),getK (b.map (λa=>(a.1,a.2.2))) k=(getK b k).map (·.2)
 | [],_=>rfl
 |a::r,k=>by
  simp only[yt,getK]
  split
  .rfl
  .exact rh r k
theorem rJ:∀(b:List (K×SHd)) (k:K) (v:SHd),(putK b k v).map (λa=>(a.1,a.2.2))=putK (b.map (λa=>(a.1,a.2.2))) k v.2
 | [],_,_=>rfl
 |a::r,k,v=>by
  simp only[yt,putK]
  split
  .rfl
  .rw[yt,rJ r k v]
theorem rj {V:Type}:∀{b:List (K×V)}{k:K}{v:V},getK b k=some v->∃a∈b,a.2=v
 | [],_,_,h=>by cases h
 |a::r,k,v,h=>by
  simp only[getK]at h
  split at h
  .cases h;exact⟨a,List.mem_cons_self ..,rfl⟩
  .obtain⟨e,d,c⟩:=rj h
   exact⟨e,zd _ d,c⟩
theorem rK {V:Type}:∀{a:List (K×V)}{k:K}{v:V}{p:K×V},p∈putK a k v->p∈a\/p.2=v
 | [],k,v,p,h=>by
  simp only[putK,List.mem_singleton]at h
  exact .inr (by rw[h])
 |q::r,k,v,p,h=>by
  simp only[putK]at h
  split at h
  .rcases List.mem_cons.1 h with rfl|h
   .exact .inr rfl
   .exact .inl (zd _ h)
  .rcases List.mem_cons.1 h with rfl|h
   .exact .inl (List.mem_cons_self ..)
   .exact(rK h).imp (zd _) id
theorem Mz.look (h:Mz wf kf J w i b xs){k:K}{r:List Int×Bool}(c:mget wf xs k []=some r):
 ∃(d:List (K×SHd)) (a:Option Addr) (u:Nat),Mc wf kf vfS J w i b d/\mget wf d k ((none,0),[])=some (((a,u),r.1),r.2)/\Rd (Rp.int .i64) J w 0 a u r.1:=by
 obtain⟨d,f,g,m⟩:=h
 unfold mget at c
 split at c
 .rename_i j
  rw[f,rh]at c
  cases e:getK d k with
  |none=>
   rw[e]at c
   cases c
   exact⟨d,none,0,g,by simp[mget,j,e],Sl.nil⟩
  |some l=>
   rw[e]at c
   cases c
   obtain⟨o,n,f⟩:=rj e
   refine⟨d,l.1.1,l.1.2,g,by simp[mget,j,e],?_⟩
   have:=m o n
   rwa [f]at this
 .cases c
theorem Mz.put (h:Mz wf kf J w i b xs){k:K}{l:List Int}{ys:List (K×List Int)}{a:Option Addr}{u:Nat}(p:Rd (Rp.int .i64) J w 0 a u l) (e:nin [i] 0=true) (f:mset wf xs k l=some ys):
 ∃d j:List (K×SHd),Mc wf kf vfS J w i b d/\mset wf d k ((a,u),l)=some j/\∀w',Stp [i] J w J w'->Mc wf kf vfS J w' i b j->Mz wf kf J w' i b ys:=by
 obtain⟨d,m,n,o⟩:=h
 unfold mset at f
 split at f
 .rename_i r
  cases f
  refine⟨d,putK d k ((a,u),l),n,by simp[mset,r],λw' g q=>⟨_,by rw[m,rJ],q,λs c=>?_⟩⟩
  rcases rK c with c|c
  .exact(o s c).stp g e e
  .rw[c];exact p.stp g e e
 .cases f
end
def in64 (a:Int):Bool:=decide (-9223372036854775808<=a/\a<=9223372036854775807)
theorem mg {a:Int}(h:in64 a=true):(Lit.int .i64 a).wf=true:=by
 have b:=of_decide_eq_true h
 simp[Lit.wf,show IntKind.i64.min= -9223372036854775808 from rfl,show IntKind.i64.max=9223372036854775807 from rfl];omega
def wf5 (a b c d e:Int):Bool:=in64 a&&in64 b&&in64 c&&in64 d&&in64 e
theorem xY {P:Program}{k:TypeId}{f1 f2 f3 f4 f5:Field}{m:Nat}(hu:P.underlying k=some (.struct #[f1,f2,f3,f4,f5])) (hkt:P.keyType k=true) (hsz:P.types.size=m+1) (hc:P.cellsOf k=5) (ho:([f1,f2,f3,f4,f5].map Field.offset)=[0,1,2,3,4])
 (hcs : ([f1, f2, f3, f4, f5].map fun f => P.cellsOf f.type) = [1, 1, 1, 1, 1]) (hus : ([f1, f2, f3, f4, f5].map fun f => P.underlying f.type) = List.replicate 5 (some (.int .i64))) (hns : ([f1, f2, f3, f4, f5].all fun f => f.name != "_") = true) {a b c d e : Int} (hw : wf5 a b c d e = true) :
 ∃l,keyOf P k (.agg #[.int .i64 a,.int .i64 b,.int .i64 c,.int .i64 d,.int .i64 e])=some l:=by
 simp only[wf5,Bool.and_eq_true]at hw
 have w1:=mg hw.1.1.1.1
 have w2:=mg hw.1.1.1.2
 have w3:=mg hw.1.1.2
 have w4:=mg hw.1.2
 have w5:=mg hw.2
 simp only[yt,List.map_nil,List.cons.injEq,and_true,List.replicate]at ho hcs hus
 obtain⟨o1,o2,o3,o4,o5⟩:=ho
 obtain⟨c1,c2,c3,c4,c5⟩:=hcs
 obtain⟨u1,u2,u3,u4,u5⟩:=hus
 simp only[List.all_cons,List.all_nil,Bool.and_true,Bool.and_eq_true,bne_iff_ne,ne_eq]at hns
 unfold keyOf
 rw[hu]
 simp only[hkt,Value.formed,hu,hc,Value.cells,hsz]
 simp[Program.keyLits,hu,hc,o1,o2,o3,o4,o5,c1,c2,c3,c4,c5,u1,u2,u3,u4,u5,w1,w2,w3,w4,w5]
 exact hns
end Go.Wk
