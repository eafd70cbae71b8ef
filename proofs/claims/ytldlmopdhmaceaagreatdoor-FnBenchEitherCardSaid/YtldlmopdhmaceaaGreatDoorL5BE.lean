/- FnBenchEither: the law. -/
import Derived.Test.YtldlmopdhmaceaaGreatDoorL4BE
set_option linter.unusedVariables false
set_option linter.unusedSimpArgs false
open Bool renaming not_true → F7
open List renaming length_append → C9, length_cons → E1, length_nil → Gh, mem_append → E4, mem_cons → E5
open Option renaming bind → FR, bind_some → GA
namespace Go.Proofs.YtldlmopdhmaceaaGreatDoor
open Go Go.Wk Go.Proofs
def txC (c:Clause):List UInt8:=match gV c with | some a=>a.data.toList | none=>[]
def lnC (c:Clause):List UInt8:=kwC++[32]++txC c
theorem zD {c:Clause}(g:cK ⟨1,1⟩ c=true):gV c=some (ofL (txC c))/\10∉txC c/\(txC c).length<=60/\gG (ofL (txC c))=some (c,true):=by
 obtain⟨i,a,d,e,f⟩:=xv g
 have b:txC c=i:=by unfold txC;rw[a];rfl
 rw[b]
 exact⟨a,d,e,f⟩
def numC:Nat->VC->List (List UInt8)
 |_,[]=>[]
 |a,_::r=>Lib.decDigits (a+1)::numC (a+1) r
theorem ya:∀(cs:VC) (a:Nat),(numC a cs).length=cs.length
 | [],_=>rfl
 |_::r,a=>by rw[numC,E1,E1,ya r]
theorem Aa:∀(cs:VC) (a i:Nat),i<cs.length->(numC a cs)[i]? =some (Lib.decDigits (a+i+1))
 |_::r,a,0,_=>rfl
 |_::r,a,i+1,h=>by
  rw[numC,List.getElem?_cons_succ,Aa r (a+1) i (by simpa using h),show a+1+i+1=a+(i+1)+1 by omega]
theorem Ab:∀(cs:VC) (a:Nat),∀b∈numC a cs,Gd b
 | [],_,_,h=>by cases h
 |_::r,a,b,h=>by
  rcases E5.1 h with rfl|h
  .exact vV _
  .exact Ab r _ b h
theorem qR {E O:List (List UInt8)}:∀{todo done:VC},(∀a∈todo,Clause.bd a/\cK ⟨1,1⟩ a=true)->done.length+todo.length<=2->Runs (done++todo) E O->Runs done (todo.map lnC++E) (numC done.length todo++O)
 | [],done,_,_,h=>by rw[List.append_nil]at h;exact h
 |a::todo,done,hc,hl,h=>by
  obtain⟨d,b⟩:=hc a (List.mem_cons_self ..)
  obtain⟨_,_,i,c⟩:=zD b
  rw[E1]at hl
  have f:=qR (E:=E) (O:=O) (todo:=todo) (done:=done++[a]) (λg e=>hc g (List.mem_cons_of_mem _ e)) (by simp only[C9,E1,Gh];omega) (by simpa using h)
  have j:=oZ (done.length+1)
  refine .cons (zn d b (by omega) (by omega) c) (by simp[lnC,kwC]) (by omega) ?_
  simpa using f
def cmds:List (List UInt8):=[[119,105,110,115],[109,97,99,104,105,110,101],[99,104,101,99,107,115],[99,111,117,110,116,101,114]]
section
variable {cs:VC}
theorem uf {a:Int}(h:fO ⟨1,1⟩ cs=some a):cv (bn cs) (ofL [119,105,110,115])=some (ofL (if a=0 then[109,97,99,104,105,110,101] else if a=1 then[119,111,114,108,100] else[45])):=by
 unfold cv
 rw[show eqB (ofL [119,105,110,115]) (ByteArray.mk #[119,105,110,115])=true by decide,cond_true]
 show FR (fO ⟨1,1⟩ cs) _=_
 rw[h,GA]
 by_cases b:a=0
 .subst b;rfl
 .rw[show(a==0)=false by simpa using b,cond_false,if_neg b]
  by_cases c:a=1
  .subst c;rfl
  .rw[show(a==1)=false by simpa using c,cond_false,if_neg c];rfl
theorem pN:cv (bn cs) (ofL [109,97,99,104,105,110,101])=FR (eo ⟨1,1⟩ cs) λa=>bif (!a.2) then some (ofL [45]) else FR (mG ⟨1,1⟩ a.1) λb=>FR (fx ⟨1,1⟩ b) λc=>FR (strings_TrimSuffix c (ByteArray.mk #[10])) λd=>FR (strings_ReplaceAll d (ByteArray.mk #[10]) (ByteArray.mk #[44,32])) λe=>some e:=by
 unfold cv
 rw[show eqB (ofL [109,97,99,104,105,110,101]) (ByteArray.mk #[119,105,110,115])=false by decide,cond_false,show eqB (ofL [109,97,99,104,105,110,101]) (ByteArray.mk #[115,116,97,116,101,115])=false by decide,cond_false,show eqB (ofL [109,97,99,104,105,110,101]) (ByteArray.mk #[109,97,99,104,105,110,101])=true by decide,cond_true]
 rfl
theorem qO:cv (bn cs) (ofL [99,104,101,99,107,115])=FR (eo ⟨1,1⟩ cs) λa=>bif (!a.2) then some (ofL [45]) else FR (jt ⟨1,1⟩ a.1 cs) λb=>FR (qD b) λc=>some c:=by
 unfold cv
 rw[show eqB (ofL [99,104,101,99,107,115]) (ByteArray.mk #[119,105,110,115])=false by decide,cond_false,show eqB (ofL [99,104,101,99,107,115]) (ByteArray.mk #[115,116,97,116,101,115])=false by decide,cond_false,show eqB (ofL [99,104,101,99,107,115]) (ByteArray.mk #[109,97,99,104,105,110,101])=false by decide,cond_false,show eqB (ofL [99,104,101,99,107,115]) (ByteArray.mk #[99,104,101,99,107,115])=true by decide,cond_true]
 rfl
theorem pM:cv (bn cs) (ofL [99,111,117,110,116,101,114])=FR (en (bn cs)) some:=by
 unfold cv
 rw[show eqB (ofL [99,111,117,110,116,101,114]) (ByteArray.mk #[119,105,110,115])=false by decide,cond_false,show eqB (ofL [99,111,117,110,116,101,114]) (ByteArray.mk #[115,116,97,116,101,115])=false by decide,cond_false,show eqB (ofL [99,111,117,110,116,101,114]) (ByteArray.mk #[109,97,99,104,105,110,101])=false by decide,cond_false,show eqB (ofL [99,111,117,110,116,101,114]) (ByteArray.mk #[99,104,101,99,107,115])=false by decide,cond_false,show eqB (ofL [99,111,117,110,116,101,114]) (ByteArray.mk #[99,111,117,110,116,101,114])=true by decide,cond_true]
theorem xw {a b c d:List UInt8}(e:cv (bn cs) (ofL [119,105,110,115])=some (ofL a)) (f:cv (bn cs) (ofL [109,97,99,104,105,110,101])=some (ofL b)) (g:cv (bn cs) (ofL [99,104,101,99,107,115])=some (ofL c)) (i:cv (bn cs) (ofL [99,111,117,110,116,101,114])=some (ofL d)) (l1:a.length<=1000000) (l2:b.length<=1000000) (j:c.length<=1000000) (k:d.length<=1000000):Runs cs cmds [a,b,c,d]:=
 .cons (pv (by decide) (by decide) e) (by decide) l1 (.cons (pv (by decide) (by decide) f) (by decide) l2 (.cons (pv (by decide) (by decide) g) (by decide) j (.cons (pv (by decide) (by decide) i) (by decide) k .nil)))
theorem Bj (A:∀m∈cs,Clause.bd m) (B:∀m∈cs,cK ⟨1,1⟩ m=true) (y:cs.length<=2):∃(b:Bool) (p q j r:List UInt8),d7 ⟨1,1⟩ cs=some b/\Runs cs cmds [p,q,j,r]/\(∀a∈[p,q,j,r],10∉a)/\p=(if b then[109,97,99,104,105,110,101] else[119,111,114,108,100])/\(q=[45]↔b=false)/\(b=true->j=[121])/\(b=false->j=[45])/\(r=[45]↔b=true):=by
 have i:sigOk ⟨1,1⟩=true:=by decide
 have w:∀{a:List UInt8},Gd a->10∉a:=λh D=>(h _ D).1 rfl
 have x:∀{a:List UInt8},Gd a->a≠[45]:=λh c=>(h 45 (by rw[c];exact List.mem_cons_self ..)).2 rfl
 rcases Bl i A B y with ⟨k,l,f,M,g,z⟩|⟨k,l,f,H,g,C⟩
 .obtain⟨E,F⟩:=CJ i z.well.1
  obtain⟨a,n,e,o⟩:=wC i E
  have s:=uf l
  have t:cv (bn cs) (ofL [109,97,99,104,105,110,101])=some (ofL a):=by
   rw[pN,g]
   simp only[GA,F7,cond_false,F]
   exact n
  have u:cv (bn cs) (ofL [99,104,101,99,107,115])=some (ofL [121]):=by
   rw[qO,g]
   simp only[GA,F7,cond_false,CI i A B y z]
   rfl
  have v:cv (bn cs) (ofL [99,111,117,110,116,101,114])=some (ofL [45]):=by
   rw[pM]
   unfold en
   show FR (FR (dF ⟨1,1⟩ cs) _) _=_
   rw[f];rfl
  refine⟨true,_,a,[121],[45],k,xw s t u v (by decide) o (by decide) (by decide),λG d=>?_,rfl,?_,λ_=>rfl,λh=>(by cases h),by simp⟩
  .simp only[E5,List.not_mem_nil,or_false]at d
   rcases d with rfl|rfl|rfl|rfl
   .decide
   .exact w e
   .decide
   .decide
  .exact⟨λc=>absurd c (x e),λc=>by cases c⟩
 .obtain⟨a,n,e,o⟩:=tI g C
  have s:=uf l
  have t:cv (bn cs) (ofL [109,97,99,104,105,110,101])=some (ofL [45]):=by
   rw[pN,f];rfl
  have u:cv (bn cs) (ofL [99,104,101,99,107,115])=some (ofL [45]):=by
   rw[qO,f];rfl
  have v:cv (bn cs) (ofL [99,111,117,110,116,101,114])=some (ofL a):=by
   rw[pM,n];rfl
  refine⟨false,_,[45],[45],a,k,xw s t u v (by decide) (by decide) (by decide) o,λG d=>?_,rfl,by simp,λh=>(by cases h),λ_=>rfl,?_⟩
  .simp only[E5,List.not_mem_nil,or_false]at d
   rcases d with rfl|rfl|rfl|rfl
   .decide
   .decide
   .decide
   .exact w e
  .exact⟨λc=>absurd c (x e),λc=>by cases c⟩
end
theorem CC:j6 1=some (ofL (Lib.decDigits 1)):=by
 rw[o7 (by omega)]
 have:(j6 1).map (·.data.toList)=some [49]:=by decide +kernel
 obtain⟨c,a,b⟩:=Option.map_eq_some_iff.1 this
 rw[a,← oA c,b];rfl
theorem CD:j6 2=some (ofL (Lib.decDigits 2)):=by
 rw[o7 (by omega)]
 have:(j6 2).map (·.data.toList)=some [50]:=by decide +kernel
 obtain⟨c,a,b⟩:=Option.map_eq_some_iff.1 this
 rw[a,← oA c,b];rfl
theorem FnBenchEither_law {p0:VI}(ak:okS U8 p0):kg p0=some true:=by
 unfold kg zX
 rw[GA]
 by_cases G:4096<(p0.length:Int)
 .rw[decide_eq_true G,cond_true]
 .rw[decide_eq_false G,cond_false]
  have X:=ak.1
  have b:p0.length<=4096:=by omega
  obtain⟨h,ae⟩:=Dq p0 617
  rw[ae,GA]
  obtain⟨cs,ah,ha,K,y,A,ap,aq⟩:=Bh X b (i:=0) (h:=h) (by omega) (by omega)
  rw[K,GA]
  dsimp only
  have F:∀a∈cs,Clause.bd a:=λa d=>by
   obtain⟨I,ax,_⟩:=y a d
   exact⟨trivial,⟨by omega,λ_ _=>trivial⟩,⟨by omega,λ_ _=>trivial⟩⟩
  have s:∀a∈cs,cK ⟨1,1⟩ a=true:=λa d=>(y a d).2.2
  have ad:∀a∈cs,10∉lnC a/\(lnC a).length<=67:=λa d=>by
   obtain⟨_,W,au,_⟩:=zD (s a d)
   unfold lnC
   refine⟨λi=>?_,by rw[C9];have:(kwC++[32]).length=7:=rfl;omega⟩
   rcases E4.1 i with i|i
   .exact absurd i (by decide)
   .exact W i
  obtain⟨v,S,E,T⟩:=cg (f:=fd (cs,ah,ha)) (λj (v:ByteArray)=>v=ofL (txt ((cs.take j).map lnC))/\(txt ((cs.take j).map lnC)).length<=68 * j) cs.length (s:=ByteArray.mk #[]) ⟨rfl,Nat.zero_le _⟩ (λj v ac ⟨e,g⟩=>by
   subst e
   obtain⟨a,w⟩:∃I,cs[j]? =some I:=⟨_,List.getElem?_eq_getElem ac⟩
   have x:=List.mem_of_getElem? w
   obtain⟨am,av,aw,_⟩:=zD (s a x)
   have c:txt ((cs.take (j+1)).map lnC)=txt ((cs.take j).map lnC)++(kwC++[32])++txC a++[10]:=by
    rw[r9 w,List.map_append,xf]
    simp[txt,lnC]
   unfold fd
   dsimp only
   have H:(kwC++[32]).length=7:=rfl
   rw[show ByteArray.mk #[99,108,97,117,115,101,32]=ofL (kwC++[32]) from rfl,show ByteArray.mk #[10]=ofL [10] from rfl,fo (by omega),GA,bT,w,GA,am,GA,fo (by rw[C9];omega),GA,fo (by rw[C9,C9];simp only[E1,Gh];omega),GA]
   refine⟨_,rfl,by rw[c],?_⟩
   rw[c]
   simp only[C9]at H ⊢
   simp only[E1,Gh]at H ⊢
   omega)
  rw[List.take_length]at E T
  rw[S,GA,bV,E]
  have x:(ByteArray.mk #[119,105,110,115,10,109,97,99,104,105,110,101,10,99,104,101,99,107,115,10,99,111,117,110,116,101,114,10])=ofL (txt cmds):=rfl
  have Y:(txt cmds).length=28:=rfl
  rw[x,fo (by omega),GA,← xf]
  obtain⟨L,o,k,p,l,M,N,O,B,C,P,R,D⟩:=Bj F s A
  have af:=qR (done:=[]) (λa d=>⟨F a d,s a d⟩) (by simpa using A) N
  obtain⟨U,V⟩:=Bf af (by simp[cmds]) (λn b=>by
   rcases E4.1 b with b|b
   .obtain⟨a,d,rfl⟩:=List.mem_map.1 b
    exact(ad a d).1
   .have:∀n∈cmds,10∉n:=by decide
    exact this n b) (by rw[xf,C9,Y];omega) (by rw[C9,List.length_map];have:cmds.length=4:=rfl;omega)
  rw[U,GA,y8 V,Cg (λn b=>by
   rcases E4.1 b with b|b
   .exact λi=>(Ab _ _ n b _ i).1 rfl
   .exact O n b),List.dropLast_concat,GA]
  have t:=ya cs 0
  have r:∀u:Nat,idx ((numC ([]:VC).length cs++[o,k,p,l]).map ofL) ((cs.length+u:Nat):Int)=([o,k,p,l][u]?).map ofL:=λu=>by
   rw[bT,List.getElem?_map,List.getElem?_append_right (by rw[Gh,t];omega),Gh,t,Nat.add_sub_cancel_left]
  have ag:((((numC ([]:VC).length cs++[o,k,p,l]).map ofL).length:Nat):Int)=(cs.length:Int)+4:=by
   rw[List.length_map,C9,Gh,t];rfl
  have aa:FR (bif decide (0<(cs.length:Int)) then
   FR (idx ((numC ([]:VC).length cs++[o,k,p,l]).map ofL) (IntKind.wrap .i64 ((cs.length:Int)-1))) λan=>
   FR (j6 (cs.length:Int)) λao=>
   some (!(eqB an ao))
   else
   some false) (λal=>some al)=some false:=by
   by_cases ar:0<cs.length
   .have ab:idx ((numC ([]:VC).length cs++[o,k,p,l]).map ofL) (IntKind.wrap .i64 ((cs.length:Int)-1))=some (ofL (Lib.decDigits cs.length)):=by
     rw[wr' (by omega) (by omega),show(cs.length:Int)-1=((cs.length-1:Nat):Int) by omega,bT,List.getElem?_map,List.getElem?_append_left (by rw[Gh,t];omega),Gh,Aa _ _ _ (by omega),show 0+(cs.length-1)+1=cs.length by omega];rfl
    have Z:j6 (cs.length:Int)=some (ofL (Lib.decDigits cs.length)):=by
     rcases(show cs.length=1\/cs.length=2 by omega) with c|c
     .rw[c];exact CC
     .rw[c];exact CD
    rw[decide_eq_true (by omega),cond_true,ab,Z]
    simp only[GA,jG,decide_true,F7]
   .rw[decide_eq_false (by omega)];rfl
  rw[ag,wr' (by omega) (by omega),bne_self_eq_false,cond_false,aa,GA,cond_false,M,GA]
  have q:=r 0
  have e:=r 1
  have g:=r 2
  have m:=r 3
  simp only[Nat.add_zero,Int.natCast_add,List.getElem?_cons_zero,List.getElem?_cons_succ,Option.map_some]at q e g m
  rw[wr' (z:=(cs.length:Int)+1) (by omega) (by omega),wr' (z:=(cs.length:Int)+2) (by omega) (by omega),wr' (z:=(cs.length:Int)+3) (by omega) (by omega)]
  rw[show ByteArray.mk #[45]=ofL [45] from rfl,show ByteArray.mk #[109,97,99,104,105,110,101]=ofL [109,97,99,104,105,110,101] from rfl,show ByteArray.mk #[119,111,114,108,100]=ofL [119,111,114,108,100] from rfl,show ByteArray.mk #[121]=ofL [121] from rfl]
  generalize((numC ([]:VC).length cs++[o,k,p,l]).map ofL)=Q at q e g m ⊢
  cases L with
  |true=>
   have ai:¬k=[45]:=λc=>by cases C.1 c
   rw[cond_true,q,B,GA,jG,if_pos rfl,decide_eq_true rfl,cond_true]
   rw[show((cs.length:Int)+((1:Nat):Int))=(cs.length:Int)+1 from rfl]at e
   rw[show((cs.length:Int)+((2:Nat):Int))=(cs.length:Int)+2 from rfl]at g
   rw[show((cs.length:Int)+((3:Nat):Int))=(cs.length:Int)+3 from rfl]at m
   rw[e,GA,jG,decide_eq_false ai,GA]
   rw[show(!false)=true from rfl,cond_true,g,P rfl,GA,jG,decide_eq_true rfl,GA,cond_true,m,D.2 rfl,GA,jG,decide_eq_true rfl]
   rfl
  |false=>
   have aj:¬l=[45]:=λc=>by cases D.1 c
   rw[cond_false,q,B,GA,jG,if_neg (by simp),decide_eq_true rfl,cond_true]
   rw[show((cs.length:Int)+((1:Nat):Int))=(cs.length:Int)+1 from rfl]at e
   rw[show((cs.length:Int)+((2:Nat):Int))=(cs.length:Int)+2 from rfl]at g
   rw[show((cs.length:Int)+((3:Nat):Int))=(cs.length:Int)+3 from rfl]at m
   rw[e,C.2 rfl,GA,jG,decide_eq_true rfl,GA,cond_true,g,R rfl,GA,jG,decide_eq_true rfl,GA,cond_true,m,GA,jG,decide_eq_false aj]
   rfl
end Go.Proofs.YtldlmopdhmaceaaGreatDoor
