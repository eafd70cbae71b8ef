/- Elements whose slice may be nil still, told by the datum; the test for nil. -/
import Derived.Test.YtgbippnfaoedmaaGreatDoorFbBG
set_option linter.unusedVariables false
set_option linter.unusedSimpArgs false
namespace Go.Wk
open Go
def nlk (b:Bool):Option Unit:=bif b then none else some ()
theorem uP {b:Bool}{v:Unit}(h:nlk b=some v):b=false:=by
 cases b
 .rfl
 .cases h
def Ep.nl {α:Type}(E:Ep α) (zc:List Value) (un:α->Bool) (k:Nat) (hl:zc.length=E.size) (h1:∀v∈zc,v.oneCell'=true):Ep α where
 size:=E.size
 rel F S w cs x:=(un x=true/\cs=zc)\/(un x=false/\E.rel F S w cs x/\∃a n f,cs[k]? =some (.slice a n f)/\a.isNone=false)
 st hF e h:=h.imp id λ⟨b,c,d⟩=>⟨b,E.st hF e c,d⟩
 len h:=h.elim (λh=>h.2 ▸ hl) λh=>E.len h.2.1
 one h:=h.elim (λh=>h.2 ▸ h1) λh=>E.one h.2.1
 rp:={ size:=E.size,rel:=λS w cs x=>(un x=true/\cs=zc)\/(un x=false/\E.rp.rel S w cs x/\∃a n f,cs[k]? =some (.slice a n f)/\a.isNone=false),st:=(λe h=>h.imp id λ⟨b,c,d⟩=>⟨b,E.rp.st e c,d⟩),len:=(λh=>h.elim (λh=>h.2 ▸ hl) λh=>(E.rp.len h.2.1).trans E.rps),one:=(λh=>h.elim (λh=>h.2 ▸ h1) λh=>E.rp.one h.2.1) }
 rps:=rfl
 rd hF e h:=h.imp id λ⟨b,c,d⟩=>⟨b,E.rd hF e c,d⟩
section
variable {α:Type}{E:Ep α}{zc:List Value}{un:α->Bool}{k:Nat}{hl:zc.length=E.size}{h1:∀v∈zc,v.oneCell'=true}{F S:Nat->Prop}{w:World}{cs:List Value}{x:α}
theorem ya {d e:Nat}(f:zc[k]? =some (.slice none d e)) (h:(E.nl zc un k hl h1).rp.rel S w cs x):∃a n g,cs[k]? =some (.slice a n g)/\a.isNone=un x:=by
 rcases h with ⟨b,c⟩|⟨b,_,c⟩
 .exact⟨none,d,e,c ▸ f,b.symm⟩
 .rw[b];exact c
theorem yb {v:Unit}(h:(E.nl zc un k hl h1).rp.rel S w cs x) (c:nlk (un x)=some v):E.rp.rel S w cs x:=by
 rcases h with ⟨a,b⟩|⟨a,b,_⟩
 .rw[a]at c;cases c
 .exact b
theorem wO {v:Unit}{a:Option Addr}{n u:Nat}(c:nlk (un x)=some v) (h:E.rel F S w cs x) (b:cs[k]? =some (.slice a n u)) (ha:a.isNone=false):(E.nl zc un k hl h1).rel F S w cs x:=
 .inr ⟨uP c,h,a,n,u,b,ha⟩
theorem wi (h:un x=true):(E.nl zc un k hl h1).rel F S w zc x:= .inl ⟨h,rfl⟩
theorem LstO.unl:∀{xs:List α}{S:Nat->Prop}{cells:List Value},xs.any un=false->LstO (E.nl zc un k hl h1) F w S cells xs->LstO E F w S cells xs
 | [],_,_,_,h=>h
 |x::r,S,_,hz,⟨c1,c2,S1,S2,e,s1,s2,a,h3⟩=>by
  rw[List.any_cons,Bool.or_eq_false_iff]at hz
  refine⟨c1,c2,S1,S2,e,s1,s2,?_,LstO.unl hz.2 h3⟩
  rcases a with ⟨b,_⟩|⟨_,a,_⟩
  .rw[hz.1]at b;cases b
  .exact a
theorem Ow.unl {T:TypeId}{a:Option Addr}{c:Nat}{xs:List α}{v:Unit}(h:Ow (E.nl zc un k hl h1) T F S w a c xs) (g:nlk (xs.any un)=some v):Ow E T F S w a c xs:=by
 obtain⟨b,d,e,f⟩:=h
 exact⟨b,d,e,f.unl (uP g)⟩
theorem Ow.noneNil {T:TypeId}{a:Option Addr}{c:Nat}{xs:List α}(h:Ow E T F S w a c xs) (d:a.isNone=true):xs=[]:=by
 obtain⟨f,⟨_,e⟩,_⟩:=h
 rcases e with ⟨_,b,_⟩|⟨_,_,_,b,_⟩
 .exact List.eq_nil_of_length_eq_zero b
 .rw[b]at d;cases d
theorem Ow.asNil {T:TypeId}{a:Option Addr}{c:Nat}{xs:List α}(b:xs=[]) (h:Ow E T F S w a c ([]:List α)):Ow E T F S w a c xs:=by rw[b];exact h
end
theorem sT {P:Program}{t e:TypeId}(f:∀w,(underlying t).run P w= .ok (.slice e) w) (a:Option Addr) (n c:Nat) (w:World):(Op.equal t (.slice a n c) (.slice none 0 0)).run P w= .ok a.isNone w:=by
 unfold Op.equal
 obtain⟨d,b⟩:∃d,Op.maxDepth=d+1:=⟨9999,rfl⟩
 rw[b]
 cases a <;> simp only[Op.equalIn,Sem.run_bind,f,Result.andThen_ok,Sem.run_pure] <;> rfl
section
variable {P:Program}{n:Nat}{C:World->Prop}{L:Env}{o:Oper}{x y:Operand}{t t' e:TypeId}{a:Option Addr}{m c:Nat}
theorem oC {b:Bool}(g:∀w,(underlying t).run P w= .ok (.slice e) w) (f:a.isNone=b) (i:opd L x=some (.slice a m c)) (j:opd L y=some (.slice none 0 0)) (d:o.op= .binOp .eql t x y t'):Rn P n C o L (.bool b):=λa w ha _=>by
 subst f
 simp only[execOp,d,ha.eval i,ha.eval j,eqGuard,binOp,Sem.run_bind,Sem.run_pure,Result.andThen_ok,sT g]
 simp
end
section
variable {P:Program}{n:Nat}{ops:Array Oper}{C:World->Prop}{N:Act->World->Prop}{r:List (Nat×Nat)}{L:Env}{J:Col}{w:World}{i d:Nat}{o:Oper}
theorem WO.bl1 {α:Type}{E:Ep α}(q:Nat) (s:ops[i]? =some o) (p:gd ops L o=some true) (m:o.dst=some d) (e:Nat.blt d n=true){t T:TypeId}{f:TypeInfo}
 (u:o.op= .buildSlice t 0 #[]) (v:P.underlying t=some (.slice T)) (hi:P.info? T=some f) (x:f.size=E.size)
 (k:∀a c b g,Stp [] J w g b->Oc E T g b q a c ([]:List α)->a.isNone=false->C b/\WO P n ops C N r ((d,.slice a ([]:List α).length c)::L) b):WO P n ops C N ((i,1)::r) L w:=
 WO.l s p m e λj ha=>by
  unfold Runs
  have:(execOp j.eval o).run P w= .ok (.value (.slice (some ⟨w.heap.size,0,none⟩) 0 0)) (w.alloc (.cells #[] T)):=by
   simp[execOp,u,Instr.buildSlice,run_underlying v,sizeOf,typeInfo,hi,Instr.fill,newRow,Array.range_zero']
  rw[this]
  exact k _ _ _ _ (Stp.nw q (Ext.alloc _ _)) ⟨[],⟨by simp,.inr ⟨w.heap.size,0,_,rfl,heap_alloc_new w _,Nat.le_refl _,by simp,by simp,by simp⟩⟩,λl e=>by
   have:l=w.heap.size:=by simpa [nb] using e
   subst this
   exact⟨by simp,by rw[mQ (Nat.le_refl _)];simp⟩,rfl⟩ rfl
end
end Go.Wk
