/- What the laid variables give a walk. -/
import Derived.Test.YtgbippnfaoedmaaGreatDoorTextBG
import Derived.LaidMore
import Derived.HandedShaped
import Derived.Handed
import Derived.Shelf.Vars
import Derived.OpenVars
import Derived.ChangeArms
set_option linter.unusedVariables false
set_option linter.unusedSimpArgs false
open Array renaming getElem?_eq_none → pf
open Option.some renaming inj → zt
namespace Go.Wk
open Go
section
theorem t8 {P:Program}{w:World}{x:String×DataW Unit}{l:List (String×DataW Unit)}(h:laidMet P (x::l) w):laidMet P l w:=by
 obtain⟨s,⟨m,t,j,k,r,i,n,o,p,q,b,c⟩,f,e⟩:=h
 subst c
 exact⟨i,b,(List.nodup_append.1 f).2.1,λa g d=>e a g (List.mem_append_right _ d)⟩
theorem nK {P:Program}{w:World}{x:String×DataW Unit}:∀{l:List (String×DataW Unit)},laidMet P l w->x∈l->∃b,laidMet P (x::b) w
 | [],_,a=>by cases a
 |y::l,h,a=>by
  rcases List.mem_cons.1 a with rfl|a
  .exact⟨l,h⟩
  .exact nK (t8 h) a
theorem tb {P:Program}{W:World}{name:String}{k:IntKind}{c:List Int}{g:Nat}{t e:TypeId}{n:Nat}{l:List (String×DataW Unit)}
 (m:P.globalNamed name=some g) (s:(P.globals[g]?).map (·.type)=some t) (r:P.underlying t=some (.array n e)) (j:P.underlying e=some (.int k)) (f:P.cellsOf e=1) (i:P.cellsOf t=n)
 (p:∀x,x∈l->∃b,laidMet P (x::b) W) (u:(name,Lib.tabData k c)∈l):Tb P name k c (λ_=>0) W:=by
 obtain⟨b,q⟩:=p _ u
 have h:=Lib.tabIs_of_head m s r j f i q
 refine⟨h,λd o=>⟨?_,rfl⟩⟩
 unfold Lib.TabIs World.var? at h
 rw[o,Option.bind_some]at h
 rcases Nat.lt_or_ge d W.heap.size with a|a
 .exact a
 .rw[pf a]at h
  cases h
def strData {H:Type}(b:List ByteArray):DataW H:= .agg (b.map λa=> .lit (.string a.data.toList))
theorem oZ {H:Type}{enc:TypeId×Value->H}{P:Program}{w:World}{base:Nat}{sp:Nat->Bool}{s:Bool}{fuel:Nat}{t e:TypeId}{n:Nat}{c:List Value}{b:List ByteArray}{p:List MemPlace}
 (x:P.underlying t=some (.array n e)) (r:P.underlying e=some .string) (o:P.cellsOf e=1) (q:P.cellsOf t=n)
 (h:DataW.trod enc P w base sp s fuel t c=some (strData b,p)):c=b.map Value.string:=by
 cases fuel with
 |zero=>simp[DataW.trod]at h
 |succ fuel=>
  simp only[DataW.trod,x,o,q,Nat.mul_one]at h
  split at h
  .rename_i D
   obtain⟨f,i,y⟩:=Option.map_eq_some_iff.1 h
   have j:f.map (·.1)=b.map λA=>(DataW.lit (.string A.data.toList):DataW H):=by
    have:=congrArg Prod.fst y
    simpa [strData] using this
   have E:f.length=n:=by simpa using Lib.mapM_length i
   have F:b.length=n:=by
    have:=congrArg List.length j
    simp at this
    omega
   apply List.ext_getElem?
   intro a
   by_cases v:a<n
   .obtain⟨C,l,u⟩:=Lib.mapM_at i a a (by simp[v])
    obtain⟨g,m,rfl,_⟩:=Go.DataW.trod_string r u
    have k:c[a]? =some (.string g):=by
     have:=congrArg (·[0]?) m
     simpa [List.getElem?_take,List.getElem?_drop] using this
    have d:(f.map (·.1))[a]? =some (DataW.lit (.string g.data.toList):DataW H):=by simp[l]
    rw[j]at d
    simp only[List.getElem?_map,Option.map_eq_some_iff,DataW.lit.injEq,Lit.string.injEq]at d
    obtain⟨B,z,e⟩:=d
    have:B=g:=Go.WideShapes.bytes_inj e
    subst this
    simp[k,z]
   .rw[List.getElem?_eq_none (by omega),List.getElem?_eq_none (by simp;omega)]
  .cases h
theorem oB {P:Program}{W:World}{name:String}{i:List ByteArray}{g:Nat}{t e:TypeId}{n:Nat}{l:List (String×DataW Unit)}
 (c:P.globalNamed name=some g) (z:(P.globals[g]?).map (·.type)=some t) (w:P.underlying t=some (.array n e)) (s:P.underlying e=some .string) (o:P.cellsOf e=1) (q:P.cellsOf t=n)
 (D:i.length=n) (E:n<=1000000) (v:∀x,x∈l->∃k,laidMet P (x::k) W) (f:(name,strData i)∈l):Rd Rp.str (λ_=>0) W 0 (some ⟨g,0,none⟩) n i:=by
 obtain⟨k,H,⟨C,K,A,B,G,I,u,y,a,r,_,_⟩,_⟩:=v _ f
 obtain rfl:=zt (c.symm.trans u)
 obtain rfl:=zt (z.symm.trans y)
 have p:=oZ w s o q r
 refine⟨by omega,by unfold maxLen;omega,.inr ⟨g,0,rfl,⟨?_,by simp⟩,λF x f=>⟨[.string x],λj L d=>?_,rfl⟩⟩⟩
 .unfold World.var? at a
  rw[c,Option.bind_some]at a
  rcases Nat.lt_or_ge g W.heap.size with b|b
  .exact b
  .rw[pf b]at a
   cases a
 .have m:Rp.str.size=1:=rfl
  rw[m,Nat.mul_one,Nat.zero_add]
  cases j with
  |zero=>
   simp only[List.getElem?_cons_zero,Option.some.injEq]at d
   subst d
   rw[Nat.add_zero,World.var?_cell c a,← Array.getElem?_toList,p,List.getElem?_map,f];rfl
  |succ j=>cases d
theorem qP {P:Program}{w:World}{g:Nat}{t:TypeId}{zero:Array Value}
 (h:w.ShapedOpen P) (e:g<P.globals.size) (b:((begin P (λ_ _=>0) default).world.heap[g]?).bind Obj.row? =some (zero,t)) (i:zero.size=1)
 (c:P.buildable t=true) (d:P.cellTypes P.depth t=some [t]) (f:P.underlying t=some (.int .i64)):Vm g (λ_=>0) w:=by
 obtain⟨j,a⟩:=Go.Proofs.cell_of_shapedOpen_int h e b i c d f
 exact⟨rfl,World.block_lt_of_cell? _ _ a,j,a⟩
variable {H:Type}{enc:TypeId×Value->H}
theorem wrapLS {a:Assume}{C:Checked}{p:Os}{f:FuncId}{c:Func}{s:ChangeSpec}{o:List PathCond}{e r u q:Bool}{X:World->Array Value->Prop}
 (y:∀(w w':World) (b:Array Value),w.heap=w'.heap->X w b->X w' b)
 (P:ownKnob C.prog.godebug=none) (Q:p.Started) (O:C.prog.inits.idxOf? f=none) (B:C.prog.funcs[f]? =some c)
 (R:∃(w:World) (d:Tape) (i:Input),w.os=p/\(w.forCall d i).Shaped C.prog/\i.vars=[]/\Input.okWide C.prog (w.forCall d i) .any w.heap.size f i /\
  ((s.pre enc C.prog c o e (w.forCall d i).memory i.args/\X (w.forCall d i).memory i.args)/\sizedMet enc C.prog c (OpenSpec.ofChange s) e (w.forCall d i).memory i.args)/\a.holds C.prog (lone (Frame.enter C.prog f i.args .normal) [] (w.forCall d i)))
 (v:∀(W:World) (base:Nat) (b:Array Value) (k m:List (DataW H)) (n:List MemPlace),
  (∀(j:Nat) t g,c.params[j]? =some t->b[j]? =some g->Value.okWide C.prog W .any base t g) ->
  DataW.Whole enc C.prog c.params.toList s.vars e W b.toList k m n ->
  o.all (PathCond.test C.prog ⟨c.params.toList,k,s.plain.varTypes C.prog,m⟩)=true ->
  X W b->W.ShapedOpen C.prog ->
  Calls C.prog f b W λl W'=>∃g,l= .returned g/\s.post enc C.prog c e r u q W b g W'):
 ReturnsInHanded a C p f .any (λw b=>(s.pre enc C.prog c o e w b/\X w b)/\sizedMet enc C.prog c (OpenSpec.ofChange s) e w b) (s.post enc C.prog c e r u q):=by
 refine returnsInHanded_of_calls P Q O R ?_
 intro w d i _ I _ E G S
 obtain⟨_,_,_,x,D,_,_,_,_,K⟩:=E
 have l:x=c:=zt (D.symm.trans B)
 subst l
 obtain⟨⟨⟨k,m,n,L,z⟩,N⟩,T⟩:=G
 have M:=DataW.Whole.of_heap (w':=w.forCall d i) (by rfl) L
 refine(v (w.forCall d i) w.heap.size i.args k m n K M z (y _ _ _ (by rfl) N) I).mono λl W' ⟨g,A,F⟩=>?_
 subst A
 exact ChangeSpec.post_blind F
end
end Go.Wk
