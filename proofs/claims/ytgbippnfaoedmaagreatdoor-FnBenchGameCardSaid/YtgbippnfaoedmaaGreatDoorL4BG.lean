/- The interpreter: the lines of a game, one by one. -/
import Derived.Test.YtgbippnfaoedmaaGreatDoorL3BG
set_option linter.unusedVariables false
set_option linter.unusedSimpArgs false
open Bool renaming not_true → zG
open List renaming getElem?_append_right → yU, getElem?_eq_getElem → nx, getElem?_eq_some_iff → yo, getElem?_map → yX, length_append → yq, length_cons → yr, length_map → Al, length_nil → zS, length_take → y8, mem_append → yu, mem_of_getElem? → ze, take_of_length_le → zi
open Option renaming bind → zm, bind_some → Af
namespace Go.Proofs.YtgbippnfaoedmaaGreatDoor
open Go Go.Wk Go.Proofs
def gb (g:Parity):bench:=⟨⟨1,1⟩,[],g⟩
inductive RunsG:Parity->List (List UInt8)->List (List UInt8)->Prop
 |nil {g:Parity}:RunsG g [] []
 |cons {g g':Parity} {l o:List UInt8} {L M:List (List UInt8)} (h:cE (gb g) (ofL l)=some (ofL o,g'.Arena.Owner,g'.Arena.Next,g'.Prio)) (hl:l≠[]) (ho:o.length<=1000000) (hr:RunsG g' L M):RunsG g (l::L) (o::M)
theorem RunsG.loop {N:List (List UInt8)}:∀{g:Parity}{L M:List (List UInt8)},RunsG g L M->∀(j:Nat) (out:List UInt8),N.drop j=L->out.length+1000001 * L.length<=1000000000->(out++txt M).length<=out.length+1000001 * L.length/\∃b,cntM (dG (N.map ofL)) L.length (j:Int) (ofL out,g.Arena.Owner,g.Arena.Next,g.Prio)=some (.inr (ofL (out++txt M),b))
 |g,_,_,.nil,j,out,_,_=>⟨by simp[txt],_,by simp[txt,cntM];rfl⟩
 |g,_,_,.cons (g':=g') (l:=l) (o:=a) (L:=L) (M:=M) h hl ho hr,j,out,hd,hb=>by
  have f:N[j]? =some l:=by
   have:=congrArg (λk=>k[0]?) hd
   simpa [List.getElem?_drop] using this
  simp only[yr]at hb
  obtain⟨d,b,e⟩:=RunsG.loop hr (j+1) (out++(a++[10])) (by rw[← List.drop_drop,hd];rfl) (by simp only[yq,yr,zS];omega)
  have c:out++txt (a::M)=out++(a++[10])++txt M:=by rw[oM];simp
  rw[c]
  refine⟨by simp only[yq,yr,zS]at d ⊢;omega,b,?_⟩
  have i:dG (N.map ofL) (j:Int) (ofL out,g.Arena.Owner,g.Arena.Next,g.Prio)=some (.inr (.inr (ofL (out++(a++[10])),g'.Arena.Owner,g'.Arena.Next,g'.Prio))):=by
   unfold dG
   rw[aS,yX,f]
   simp only[Option.map_some,Af]
   rw[show ByteArray.mk #[]=ofL [] from rfl,tp,decide_eq_false hl]
   show zm (zm (cE (gb g) (ofL l)) _) _=_
   rw[h]
   simp only[Af]
   rw[show ByteArray.mk #[10]=ofL [10] from rfl,cp (by simp only[yr,zS];omega),Af,cp (by simp only[yq,yr,zS];omega)]
   rfl
  show zm (dG (N.map ofL) (j:Int) (ofL out,g.Arena.Owner,g.Arena.Next,g.Prio)) _=_
  rw[i,Af,jV]
  exact e
theorem uv {L M:List (List UInt8)}(h:RunsG ⟨⟨[],[]⟩,[]⟩ L M) (i:L≠[]) (g:∀j∈L,10∉j) (f:(txt L).length<=4000) (l:L.length<=200):lW (ofL (txt L))=some (ofL (txt M))/\(txt M).length<=1000000000:=by
 obtain⟨c,d,k⟩:=sd i g
 have m:c.length<=4000:=by
  rw[d,yq]at f;omega
 obtain⟨a,n,b⟩:=h.loop (N:=L) 0 [] rfl (by simp only[zS];omega)
 rw[List.nil_append]at a b
 refine⟨?_,by simp only[zS]at a;omega⟩
 unfold lW strings_TrimSuffix strings_Split
 rw[show ByteArray.mk #[10]=ofL [10] from rfl,show ByteArray.mk #[]=ofL [] from rfl,vC (by omega),Af]
 have e:Lib.trimSuffix (txt L) [10]=c:=by rw[d,um]
 rw[e,lI (by omega),Af,k,fP,decide_eq_false (by omega),cond_false,Af,Al,decide_eq_false (by omega),cond_false]
 show zm (cntM (dG (L.map ofL)) L.length ((0:Nat):Int) (ofL [],[],[],[])) _=_
 rw[b];rfl
theorem pN {g:Parity}{l o:List UInt8}(d:l.length<=100) (h:32∉l) (c:bX (gb g) (ofL l)=some (ofL o)):cE (gb g) (ofL l)=some (ofL o,g.Arena.Owner,g.Arena.Next,g.Prio):=by
 unfold cE strings_Split strings_TrimPrefix
 rw[show ByteArray.mk #[32]=ofL [32] from rfl,lI (by omega),qM h,Af]
 have a:idx ([l].map ofL) 0=some (ofL l):=rfl
 have b:(([l].map ofL).length:Int)=1:=rfl
 simp only[a,Af,b]
 rw[cp (by simp only[yr,zS];omega),Af]
 unfold tpreB
 rw[Af]
 simp only[show ¬(1:Int)<1 from by omega,decide_false,c,Af]
 cases eqB (ofL l) (ByteArray.mk #[99,108,97,117,115,101]) <;> cases eqB (ofL l) (ByteArray.mk #[118,101,114,116,101,120]) <;> rfl
theorem vB (p t:List UInt8):Lib.trimPrefix (p++t) p=t:=by
 unfold Lib.trimPrefix Lib.hasPrefix
 rw[if_pos (by rw[List.isPrefixOf_iff_prefix];exact List.prefix_append ..)]
 simp
def kwV:List UInt8:=[118,101,114,116,101,120]
def addV (g:Parity) (p o:Int) (row:VI):Parity:=⟨⟨g.Arena.Owner++[o],g.Arena.Next++[row]⟩,g.Prio++[p]⟩
theorem sV {g:Parity}{p o:Int}{row:VI}{t:List UInt8}(x:t.length<=1000) (s:g.Arena.Owner.length<=6) (u:g.Arena.Next.length<=6) (v:g.Prio.length<=6) (n:cY (ofL t) 12=some (p,o,row,true)):cE (gb g) (ofL (kwV++[32]++t))=some (ofL (Lib.decDigits (g.Prio.length+1)),(addV g p o row).Arena.Owner,(addV g p o row).Arena.Next,(addV g p o row).Prio):=by
 have f:(32:UInt8)∉kwV:=by decide
 have c:kwV++[32]++t=kwV++32::t:=by simp
 have w:(kwV++[32]++t).length<=2000:=by
  rw[yq,yq]
  have:kwV.length=6:=rfl
  simp only[yr,zS];omega
 have i:dJ (gb g) (ofL t)=some (ofL (Lib.decDigits (g.Prio.length+1)),(addV g p o row).Arena.Owner,(addV g p o row).Arena.Next,(addV g p o row).Prio):=by
  unfold dJ iq
  rw[n,Af]
  have e:(gb g).game=g:=rfl
  simp only[zG,cond_false,e,Af,show ¬(12:Int)<=(g.Prio.length:Int) from by omega,decide_false]
  rw[app1 (by omega) rfl,Af,app1 (by omega) rfl,Af,app1 (by omega) rfl,Af,Af]
  dsimp only
  rw[yq]
  have:=mb (m:=g.Prio.length+1) (by omega)
  rw[show((g.Prio.length + [p].length:Nat):Int)=((g.Prio.length+1:Nat):Int) from rfl,this]
  rfl
 unfold cE strings_Split strings_TrimPrefix
 rw[show ByteArray.mk #[32]=ofL [32] from rfl,lI (by omega),Af]
 obtain⟨a,b,r⟩:=List.exists_cons_of_ne_nil (tO 32 t)
 have l:sp 32 (kwV++[32]++t)=kwV::a::b:=by rw[c,mC t f,r]
 rw[l]
 have d:idx ((kwV::a::b).map ofL) 0=some (ofL kwV):=rfl
 have j:eqB (ofL kwV) (ByteArray.mk #[99,108,97,117,115,101])=false:=by decide
 have k:eqB (ofL kwV) (ByteArray.mk #[118,101,114,116,101,120])=true:=by decide
 simp only[d,Af,j,k,cond_true,cond_false]
 rw[cp (by decide),Af]
 have q:tpreB (ofL (kwV++[32]++t)) (ofL (kwV++[32]))=some (ofL t):=by
  unfold tpreB
  rw[gW,gW,vB];rfl
 rw[q,Af,decide_eq_true (by simp only[Al,yr];omega),cond_true,i]
 rfl
section
open Classical
theorem tA {g:Type}{P:Nat->g->Prop}:∀b:Nat,(∀a,a<b->∃c,P a c)->∃d:List g,d.length=b/\∀a,a<b->∃c,d[a]? =some c/\P a c
 |0,_=>⟨[],rfl,λa e=>absurd e (by omega)⟩
 |b+1,h=>by
  obtain⟨d,f,m⟩:=tA b λa e=>h a (by omega)
  obtain⟨c,l⟩:=h b (by omega)
  refine⟨d++[c],by rw[yq,f];rfl,λa e=>?_⟩
  by_cases k:a=b
  .subst k
   exact⟨c,by rw[yU (by omega),f,Nat.sub_self];rfl,l⟩
  .obtain⟨n,i,j⟩:=m a (by omega)
   exact⟨n,by rw[List.getElem?_append_left (by omega)];exact i,j⟩
theorem nf {K:Nat}(a:List UInt8):∀(xs:List (List UInt8)),(∀b∈xs,b.length<=K)->(Lib.joinTail a xs).length<=(a.length+K) * xs.length
 | [],_=>by simp[Lib.joinTail]
 |b::xs,h=>by
  have:=nf a xs λe d=>h e (List.mem_cons_of_mem _ d)
  have f:=h b (List.mem_cons_self ..)
  have c:Lib.joinTail a (b::xs)=a++b++Lib.joinTail a xs:=by simp[Lib.joinTail]
  rw[c,yq,yq,yr,Nat.mul_succ]
  omega
theorem vY {K:Nat}(a:List UInt8){xs:List (List UInt8)}(h:∀b∈xs,b.length<=K):(Lib.join xs a).length<=(a.length+K) * xs.length:=by
 cases xs with
 |nil=>rw[Lib.join_nil];exact Nat.zero_le _
 |cons b xs=>
  have:=nf a xs λd c=>h d (List.mem_cons_of_mem _ c)
  have e:=h b (List.mem_cons_self ..)
  rw[Lib.join_cons,yq,yr,Nat.mul_succ]
  omega
def nmB (b:Bool):List UInt8:=if b then[111,100,100] else[101,118,101,110]
def enB (x:Int):List UInt8:=if x= -1 then[45] else Lib.decDigits x.toNat
noncomputable def ptB (W:Int->Prop) (k:VI) (v:Nat):List UInt8:=nmB (wB W (v:Int))++[32]++enB (pkL k (v:Int))
noncomputable def ptsB (n:Nat) (W:Int->Prop) (k:VI):List (List UInt8):=(List.range n).map (ptB W k)
theorem n4 {u:Nat}(h:u<10):(10:UInt8)∉Lib.decDigits u/\(Lib.decDigits u).length=1:=by
 rw[py h]
 refine⟨?_,rfl⟩
 have:∀u:Nat,u<10->(10:UInt8)∉[UInt8.ofNat (48+u)]:=by decide
 exact this u h
theorem n5 {x:Int}(h:x= -1\/0<=x/\x<6):(10:UInt8)∉enB x/\(enB x).length=1:=by
 unfold enB
 rcases h with rfl|h
 .rw[if_pos rfl];exact⟨by decide,rfl⟩
 .rw[if_neg (by omega)];exact n4 (by omega)
theorem vN {u:Nat}(h:u<6):jB (u:Int)=some (ofL (Lib.decDigits u)):=by
 rw[py (by omega)]
 have c:∀u:Nat,u<6->(jB (u:Int)).map (·.data.toList)=some [UInt8.ofNat (48+u)]:=by decide +kernel
 obtain⟨d,a,b⟩:=Option.map_eq_some_iff.1 (c u h)
 rw[a,← mq d,b]
theorem uA {x:Int}(h:x= -1\/0<=x/\x<6):gE x=some (ofL (enB x)):=by
 unfold gE enB
 rcases h with rfl|h
 .rfl
 .rw[show(x== -1)=false by rw[beq_eq_false_iff_ne];omega,cond_false,if_neg (by omega)]
  obtain⟨a,rfl⟩:=bA h.1
  rw[mb (by omega)];rfl
section
variable {g:Parity}(h:G6 g){W:Int->Prop}{k:VI}(hS:Solv g W k)
include h hS
theorem ql {v:Nat}(j:v<g.Prio.length):idx k (v:Int)=some (pkL k (v:Int))/\(pkL k (v:Int)= -1\/0<=pkL k (v:Int)/\pkL k (v:Int)<6):=by
 have a:Xn g.Prio.length (v:Int):=⟨by omega,by omega⟩
 obtain⟨l,c⟩:=bg (xs:=k) a.1 (by rw[hS.len];exact a.2)
 have d:=qm c
 rw[d]
 refine⟨c,?_⟩
 rcases hS.pick _ _ c with b|b
 .exact .inl b
 .refine .inr ⟨b,?_⟩
  have f:(gI g).own (v:Int)=wB W (v:Int):=Classical.byContradiction λe=>by
   have:=hS.ans.free _ a e
   omega
  have:=(hS.ans.mine _ a f).2.2.1
  rw[d]at this
  have i:=this.2
  have:=h.le
  omega
theorem wP {v:Nat}(f:v<g.Prio.length):(10:UInt8)∉ptB W k v/\(ptB W k v).length<=6:=by
 obtain⟨_,d⟩:=ql h hS f
 obtain⟨c,j⟩:=n5 d
 have e:∀b,(10:UInt8)∉nmB b/\(nmB b).length<=4:=by decide
 obtain⟨i,l⟩:=e (wB W (v:Int))
 unfold ptB
 refine⟨λa=>?_,by simp only[yq,yr,zS];omega⟩
 rcases yu.1 a with a|a
 .rcases yu.1 a with a|a
  .exact i a
  .exact absurd a (by decide)
 .exact c a
omit h hS in
theorem tE {v:Nat}(a:v<g.Prio.length):(ptsB g.Prio.length W k)[v]? =some (ptB W k v):=by
 unfold ptsB
 rw[yX,List.getElem?_range a];rfl
theorem rI:(10:UInt8)∉Lib.join (ptsB g.Prio.length W k) [44,32]/\(Lib.join (ptsB g.Prio.length W k) [44,32]).length<=1000:=by
 have d:∀a∈ptsB g.Prio.length W k,(10:UInt8)∉a/\a.length<=6:=λa c=>by
  obtain⟨n,l,rfl⟩:=List.mem_map.1 c
  exact wP h hS (List.mem_range.1 l)
 refine⟨λb=>?_,?_⟩
 .rcases uN b with b|⟨a,e,f⟩
  .exact absurd b (by decide)
  .exact(d a e).1 f
 .have i:=vY (K:=6) [44,32] λa c=>(d a c).2
  have j:(ptsB g.Prio.length W k).length=g.Prio.length:=by simp[ptsB]
  have m:=h.le
  rw[j,show([44,32]:List UInt8).length+6=8 from rfl]at i
  omega
theorem vr (d:js g=some ⟨wonL g.Prio.length W,k⟩):dr (gb g)=some (ofL (Lib.join (ptsB g.Prio.length W k) [44,32])):=by
 have t:=h.le
 have m:(ptsB g.Prio.length W k).length=g.Prio.length:=by simp[ptsB]
 obtain⟨c,q,j⟩:=ba (f:=cL ⟨wonL g.Prio.length W,k⟩) (λb (c:List ByteArray)=>c=((ptsB g.Prio.length W k).take b).map ofL) g.Prio.length (s:=[]) (by simp) (λb c e d=>by
  subst d
  have l:Xn g.Prio.length (b:Int):=⟨by omega,by omega⟩
  obtain⟨p,i⟩:=ql h hS e
  obtain⟨r,s⟩:=n5 i
  have n:∀a,idx ec (b2i a)=some (ofL (nmB a))/\(nmB a).length<=4:=λa=>by cases a <;> exact⟨rfl,by decide⟩
  obtain⟨o,v⟩:=n (wB W (b:Int))
  unfold cL
  dsimp only
  rw[iW l,Af,o,Af,show ByteArray.mk #[32]=ofL [32] from rfl,cp (by simp only[yr,zS];omega),Af,p,Af,uA i,Af,cp (by simp only[yq,yr,zS];omega),Af,app1 (by rw[Al,y8,m];omega) rfl,Af,bi (tE e)]
  exact⟨_,rfl,by rw[List.map_append];rfl⟩)
 have u:=(rI h hS).2
 rw[show(ptsB g.Prio.length W k).take g.Prio.length=ptsB g.Prio.length W k from zi (by omega)]at j
 unfold dr strings_Join
 rw[show(gb g).game=g from rfl,gv,h.ok,Af,zG,cond_false,d,Af]
 dsimp only
 rw[iX,q,Af,aU,j,show ByteArray.mk #[44,32]=ofL [44,32] from rfl,tY (by omega) (by omega)]
 rfl
theorem wL:cntM (co ⟨wonL g.Prio.length W,k⟩) g.Prio.length 0 (ByteArray.mk #[])=some (.inr (ofL (Lib.join (ptsB g.Prio.length W k) [44,32]))):=by
 have N:=h.le
 have v:(ptsB g.Prio.length W k).length=g.Prio.length:=by simp[ptsB]
 obtain⟨i,C,q,R⟩:=ba (f:=co ⟨wonL g.Prio.length W,k⟩) (λa (i:ByteArray)=>i=ofL (Lib.join ((ptsB g.Prio.length W k).take a) [44,32])/\(Lib.join ((ptsB g.Prio.length W k).take a) [44,32]).length<=10 * a) g.Prio.length (s:=ByteArray.mk #[]) ⟨rfl,by simp[Lib.join_nil]⟩ (λa i j ⟨A,Q⟩=>by
  subst A
  have t:Xn g.Prio.length (a:Int):=⟨by omega,by omega⟩
  obtain⟨z,c⟩:=ql h hS j
  obtain⟨M,m⟩:=n5 c
  obtain⟨S,T⟩:=wP h hS j
  have w:∀e,idx [(ByteArray.mk #[101,118,101,110]),(ByteArray.mk #[111,100,100])] (b2i e)=some (ofL (nmB e))/\(nmB e).length<=4:=λe=>by cases e <;> exact⟨rfl,by decide⟩
  obtain⟨y,P⟩:=w (wB W (a:Int))
  have b:=tZ [44,32] (ptB W k a) ((ptsB g.Prio.length W k).take a)
  rw[← bi (tE j)]at b
  have l:(ptsB g.Prio.length W k).take a=[]↔a=0:=by
   rw[← List.length_eq_zero_iff,y8,v];omega
  have n:∀d:List UInt8,d.length<=10 * a+2->zm (idx (⟨wonL g.Prio.length W,k⟩:Answer).Won (a:Int)) (λD=>zm (idx ([(ByteArray.mk #[101,118,101,110]),(ByteArray.mk #[111,100,100])]:List ByteArray) D) λE=>zm (catB (ofL d) E) λF=>zm (catB F (ByteArray.mk #[32])) λr=>zm (idx (⟨wonL g.Prio.length W,k⟩:Answer).Plan (a:Int)) λG=>zm (bif decide (G<0) then zm (catB r (ByteArray.mk #[45])) λH=>some (H:ByteArray) else zm (idx (⟨wonL g.Prio.length W,k⟩:Answer).Plan (a:Int)) λI=>zm (jB I) λK=>zm (catB r K) λL=>some (L:ByteArray)) λB=>(some (.inr (.inr (B:ByteArray))):Option (Bool⊕(ByteArray⊕ByteArray))))=some (.inr (.inr (ofL (d++ptB W k a)))):=λd O=>by
   dsimp only
   rw[iW t,Af,y,Af,cp (by omega),Af,show ByteArray.mk #[32]=ofL [32] from rfl,cp (by simp only[yq,yr,zS];omega),Af,z,Af]
   have u:d++nmB (wB W (a:Int))++[32]++enB (pkL k (a:Int))=d++ptB W k a:=by unfold ptB;simp
   rw[← u]
   rcases c with c|c
   .rw[c,decide_eq_true (by decide),cond_true,show ByteArray.mk #[45]=ofL [45] from rfl,cp (by simp only[yq,yr,zS];omega)]
    rfl
   .have p:enB (pkL k (a:Int))=Lib.decDigits (pkL k (a:Int)).toNat:=if_neg (by omega)
    rw[p]
    rw[p]at m
    obtain⟨U,x⟩:=bA c.1
    rw[x,Int.toNat_natCast]at m ⊢
    rw[decide_eq_false (by omega),cond_false,Af,vN (by omega),Af,cp (by simp only[yq,yr,zS];omega)]
    rfl
  unfold co
  by_cases o:a=0
  .subst o
   rw[if_pos (l.2 rfl)]at b
   rw[decide_eq_false (by decide),cond_false,Af,n _ (by omega)]
   rw[l.2 rfl,Lib.join_nil,List.nil_append,← b]
   exact⟨_,rfl,rfl,by rw[b];omega⟩
  .rw[if_neg (λs=>o (l.1 s))]at b
   rw[decide_eq_true (by omega),cond_true,show ByteArray.mk #[44,32]=ofL [44,32] from rfl,cp (by simp only[yr,zS];omega),Af,Af,n _ (by simp only[yq,yr,zS];omega),← b]
   exact⟨_,rfl,rfl,by rw[b];simp only[yq,yr,zS];omega⟩)
 rw[zi (by omega)]at q
 rw[C,q]
end
def kwS:List UInt8:=[115,111,108,118,101]
def kwW:List UInt8:=[119,97,121,115]
theorem rF (g:Parity):bX (gb g) (ofL kwS)=zm (dr (gb g)) some:=by
 unfold bX
 rw[show eqB (ofL kwS) (ByteArray.mk #[119,105,110,115])=false by decide,cond_false,show eqB (ofL kwS) (ByteArray.mk #[115,116,97,116,101,115])=false by decide,cond_false,show eqB (ofL kwS) (ByteArray.mk #[109,97,99,104,105,110,101])=false by decide,cond_false,show eqB (ofL kwS) (ByteArray.mk #[99,104,101,99,107,115])=false by decide,cond_false,show eqB (ofL kwS) (ByteArray.mk #[99,111,117,110,116,101,114])=false by decide,cond_false,show eqB (ofL kwS) (ByteArray.mk #[115,111,108,118,101])=true by decide,cond_true]
theorem sI {g:Parity}(h:G6 g):bX (gb g) (ofL kwW)=some (ofL [121]):=by
 unfold bX
 rw[show eqB (ofL kwW) (ByteArray.mk #[119,105,110,115])=false by decide,cond_false,show eqB (ofL kwW) (ByteArray.mk #[115,116,97,116,101,115])=false by decide,cond_false,show eqB (ofL kwW) (ByteArray.mk #[109,97,99,104,105,110,101])=false by decide,cond_false,show eqB (ofL kwW) (ByteArray.mk #[99,104,101,99,107,115])=false by decide,cond_false,show eqB (ofL kwW) (ByteArray.mk #[99,111,117,110,116,101,114])=false by decide,cond_false,show eqB (ofL kwW) (ByteArray.mk #[115,111,108,118,101])=false by decide,cond_false,show eqB (ofL kwW) (ByteArray.mk #[119,97,121,115])=true by decide,cond_true,show(gb g).game=g from rfl,gv,h.ok,Af,zG,cond_false,uq h]
 rfl
def numG:Nat->Nat->List (List UInt8)
 |_,0=>[]
 |j,k+1=>Lib.decDigits (j+1)::numG (j+1) k
theorem rE:∀(k j:Nat),(numG j k).length=k
 |0,_=>rfl
 |k+1,j=>by unfold numG;rw[yr,rE k (j+1)]
theorem pG:∀(k j:Nat),j+k<=6->∀b∈numG j k,(10:UInt8)∉b
 |0,_,_,b,a=>by cases a
 |k+1,j,h,b,a=>by
  unfold numG at a
  rcases List.mem_cons.1 a with rfl|a
  .exact(n4 (by omega)).1
  .exact pG k (j+1) (by omega) b a
def cutG (g:Parity) (j:Nat):Parity:=⟨⟨g.Arena.Owner.take j,g.Arena.Next.take j⟩,g.Prio.take j⟩
def VtP (g:Parity) (v:Nat) (t:List UInt8):Prop:=fV g (v:Int)=some (ofL t)/\(10:UInt8)∉t/\t.length<=60/\∃b a c,g.Prio[v]? =some b/\g.Arena.Owner[v]? =some a/\g.Arena.Next[v]? =some c/\cY (ofL t) 12=some (b,a,c,true)
theorem ll {g:Parity}{n:Nat}(q:n<=6) (s:g.Arena.Owner.length=n) (r:g.Arena.Next.length=n) (t:g.Prio.length=n){T:List (List UInt8)}(v:T.length=n) (m:∀f,f<n->∃a,T[f]? =some a/\VtP g f a){C D:List (List UInt8)}(i:RunsG g C D):∀(k j:Nat),j+k=n->RunsG (cutG g j) ((T.drop j).map (λa=>kwV++[32]++a)++C) (numG j k++D)
 |0,j,e=>by
  have p:cutG g j=g:=by
   unfold cutG
   rw[zi (by omega),zi (by omega),zi (by omega)]
  rw[p,List.drop_eq_nil_of_le (by omega)]
  exact i
 |k+1,j,e=>by
  obtain⟨a,o,F,G,H,c,b,d,z,A,B,E⟩:=m j (by omega)
  have y:=(yo.1 o).1
  have w:T.drop j=a::T.drop (j+1):=by
   rw[List.drop_eq_getElem_cons y]
   congr 1
   exact(yo.1 o).2
  rw[w]
  have l:=sV (g:=cutG g j) (p:=c) (o:=b) (row:=d) (t:=a) (by omega) (by show(List.take _ _).length<=6;rw[y8];omega) (by show(List.take _ _).length<=6;rw[y8];omega) (by show(List.take _ _).length<=6;rw[y8];omega) E
  have ha:addV (cutG g j) c b d=cutG g (j+1):=by
   unfold addV cutG
   dsimp only
   rw[bi z,bi A,bi B]
  have x:(cutG g j).Prio.length=j:=by
   show(List.take _ _).length=j
   rw[y8];omega
  rw[ha,x]at l
  exact .cons l (by simp[kwV]) (by have:=(n4 (u:=j+1) (by omega)).2;omega) (ll q s r t v m i k (j+1) (by omega))
theorem FnBenchGame_law {p0:VI}(ap:okS U8 p0):gz p0=some true:=by
 unfold gz tx
 rw[Af]
 by_cases G:4096<(p0.length:Int)
 .rw[decide_eq_true G,cond_true]
 .rw[decide_eq_false G,cond_false]
  have ad:=ap.1
  have a:p0.length<=4096:=by omega
  obtain⟨ag,al⟩:=wA p0 618
  rw[al,Af]
  obtain⟨g,ao,ab,Q,d,R,S,U⟩:=vS ad a (i:=0) (h:=ag) (by omega) (by omega)
  rw[Q,Af]
  dsimp only
  have H:=GOk.of d.ok
  have ac:=d.le
  have ax:=d.pos
  have ak:=H.lo
  have aj:=H.ln
  obtain⟨T,T1,T2⟩:=tA (P:=VtP g) g.Prio.length λb r=>by
   have q:g.Prio[b]? =some g.Prio[b]:=nx r
   have n:g.Arena.Owner[b]? =some (g.Arena.Owner[b]'(by omega)):=nx (by omega)
   have m:g.Arena.Next[b]? =some (g.Arena.Next[b]'(by omega)):=nx (by omega)
   generalize g.Prio[b]=p at q
   generalize g.Arena.Owner[b]'(by omega)=o at n
   generalize g.Arena.Next[b]'(by omega)=row at m
   obtain⟨aq,ar,au⟩:=U row (ze m)
   obtain⟨c,v,w,N,O⟩:=sf (S p (ze q)) (R o (ze n)) aq ar au
   refine⟨c,?_,w,N,p,o,row,q,n,m,O⟩
   have ai:eW g (b:Int)=eW ⟨⟨[o],[row]⟩,[p]⟩ 0:=by
    unfold eW
    dsimp only
    rw[aS,aS,aS,q,n,m]
    rfl
   unfold fV
   rw[jk,d.ok,Af,zG,cond_false,wr' (by omega) (by omega),iz,Af,Af]
   rw[show(decide (0<=(b:Int))&&decide ((b:Int)<=(g.Prio.length:Int)-1))=true by simp;omega,zG,cond_false,ai,v]
   rfl
  obtain⟨t,V,x,X⟩:=ba (f:=cS (g,ao,ab)) (λe (t:ByteArray)=>t=ofL (txt ((T.take e).map λc=>kwV++[32]++c))/\(txt ((T.take e).map λc=>kwV++[32]++c)).length<=68 * e) g.Prio.length (s:=ByteArray.mk #[]) ⟨rfl,Nat.zero_le _⟩ (λe t ah ⟨i,A⟩=>by
   subst i
   obtain⟨c,v,w,N,O,_⟩:=T2 e ah
   have y:txt ((T.take (e+1)).map λc=>kwV++[32]++c)=txt ((T.take e).map λc=>kwV++[32]++c)++(kwV++[32])++c++[10]:=by
    rw[bi v,List.map_append,qO]
    simp[txt]
   unfold cS
   dsimp only
   have I:(kwV++[32]).length=7:=rfl
   rw[show ByteArray.mk #[118,101,114,116,101,120,32]=ofL (kwV++[32]) from rfl,show ByteArray.mk #[10]=ofL [10] from rfl,cp (by omega),Af,w,Af,cp (by rw[yq];omega),Af,cp (by rw[yq,yq];simp only[yr,zS];omega),Af]
   refine⟨_,rfl,by rw[y],?_⟩
   rw[y]
   simp only[yq]at I ⊢
   simp only[yr,zS]at I ⊢
   omega)
  rw[zi (by omega)]at x X
  rw[V,Af,aU,x]
  obtain⟨W,k,av,aw,_,_,hS⟩:=m0 d.ok
  rw[av,Af]
  dsimp only
  rw[iX,wL d hS,Af,aU]
  obtain⟨E,aa⟩:=rI d hS
  have L:bX (gb g) (ofL kwS)=some (ofL (Lib.join (ptsB g.Prio.length W k) [44,32])):=by
   rw[rF,vr d hS aw];rfl
  generalize Lib.join (ptsB g.Prio.length W k) [44,32]=B at E aa L ⊢
  have K:=ll (g:=g) ac ak aj rfl T1 T2 (C:=[kwS,kwW]) (D:=[B,[121]]) (.cons (pN (by decide) (by decide) L) (by decide) (by omega) (.cons (pN (by decide) (by decide) (sI d)) (by decide) (by decide) .nil)) g.Prio.length 0 (by omega)
  rw[List.drop_zero]at K
  have af:(ByteArray.mk #[115,111,108,118,101,10,119,97,121,115,10])=ofL (txt [kwS,kwW]):=rfl
  have ae:(txt [kwS,kwW]).length=11:=rfl
  rw[af,cp (by omega),Af,← qO]
  obtain⟨Y,Z⟩:=uv (M:=numG 0 g.Prio.length++[B,[121]]) K (by simp) (λl a=>by
   rcases yu.1 a with a|a
   .obtain⟨c,am,rfl⟩:=List.mem_map.1 a
    obtain⟨b,r⟩:=List.mem_iff_getElem?.1 am
    obtain⟨ay,i,A⟩:=T2 b (by have:=(yo.1 r).1;omega)
    rw[r]at i
    cases i
    intro j
    rcases yu.1 j with j|j
    .exact absurd j (by decide)
    .exact A.2.1 j
   .have:∀l∈[kwS,kwW],10∉l:=by decide
    exact this l a) (by rw[qO,yq,ae];omega) (by rw[yq,Al];have:[kwS,kwW].length=2:=rfl;omega)
  rw[Y,Af,sC Z,vv (λl a=>by
   rcases yu.1 a with a|a
   .exact pG _ 0 (by omega) l a
   .rcases List.mem_cons.1 a with rfl|a
    .exact E
    .rw[List.mem_singleton.1 a];decide),List.dropLast_concat,Af]
  have u:=rE g.Prio.length 0
  have F:∀s:Nat,idx ((numG 0 g.Prio.length++[B,[121]]).map ofL) ((g.Prio.length+s:Nat):Int)=([B,[121]][s]?).map ofL:=λs=>by
   rw[aS,yX,yU (by rw[u];omega),u,Nat.add_sub_cancel_left]
  have an:((((numG 0 g.Prio.length++[B,[121]]).map ofL).length:Nat):Int)=(g.Prio.length:Int)+2:=by
   rw[Al,yq,u];rfl
  have z:=F 0
  have i:=F 1
  rw[Nat.add_zero]at z
  rw[an,wr' (by omega) (by omega),beq_self_eq_true,cond_true,z,List.getElem?_cons_zero,Option.map_some,Af,tp,decide_eq_true rfl,Af,cond_true,wr' (by omega) (by omega),show(g.Prio.length:Int)+1=((g.Prio.length+1:Nat):Int) from rfl,i]
  rfl
end
end Go.Proofs.YtgbippnfaoedmaaGreatDoor
