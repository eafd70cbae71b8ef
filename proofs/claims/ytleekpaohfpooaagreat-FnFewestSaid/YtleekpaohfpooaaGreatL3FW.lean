/- The product of a machine and an automaton: both sides build the same. -/
import Derived.Test.YtleekpaohfpooaaGreatL2FW
import Derived.Test.YtleekpaohfpooaaGreatL0FW
import Derived.Test.YtleekpaohfpooaaGreatL1FW
import Derived.Test.YtleekpaohfpooaaGreatCmpFW
set_option linter.unusedVariables false
set_option linter.unusedSimpArgs false
open Option renaming bind → bH, bind_some → bI
open List renaming getElem?_eq_getElem → bJ, getElem?_eq_some_iff → bK, replicate → bO, mem_of_getElem? → bQ, getElem?_replicate → hV, length_append → z5, mem_singleton → z6, length_cons → z8, length_nil → Aa, getElem?_eq_none → Ac, mem_append → Ad, take_add_one → Ae, length_map → Ah
open Bool renaming and_eq_true → sh, not_true → zZ
namespace Go.Proofs.YtleekpaohfpooaaGreat
open Go Go.Wk Go.Proofs
abbrev WT:=List Key×Int×List (List Int)×List (List Int)×List (Key×Int)
abbrev WS:=Int×List Int×List Int×List (List Int)×List (List Int)
def toS (t:WT):WS:=(t.2.1,t.1.map (·.1),t.1.map (·.2),t.2.2.1,t.2.2.2.1)
def InvW (m:Machine) (d:Det) (k:Nat) (t:WT):Prop:=Kin m.Next.length d.Next.length t.1/\0<=t.2.1/\t.2.1<=t.1.length/\(t.2.2.1.length:Int)=t.2.1/\(t.2.2.2.1.length:Int)=t.2.1/\(∀r∈t.2.2.1,r.length=k)/\t.2.2.2.2=ixm 0 t.1/\t.1.length<=256
section
variable {p:Sig}{m:Machine}{d:Det}(hs:sigOk p=true) (hm:machOk p m=true) (hd:detOk p d=true){k:Nat}(hk:pw p.In=(k:Int))
include hs hm hd hk
theorem yX {q r:Int}(g:0<=q) (l:q<m.Next.length) (n:0<=r) (o:r<d.Next.length){K:List Key}(hK:Kin m.Next.length d.Next.length K) (hl:K.length<=1000){x42 x47:Key}(t:x42.1=q) (v:x47.2=r){row:List Int}(w:idx m.Next q=some row):
 cntM (ga p m d x42 x47 row) k 0 (K,[],[],ixm 0 K)=some (.inr ((rowW m d (pw p.In) q r K k).1,(rowW m d (pw p.In) q r K k).2.1,(rowW m d (pw p.In) q r K k).2.2,ixm 0 (rowW m d (pw p.In) q r K k).1)):=by
 obtain⟨V,W,X,Y,Z⟩:=cB hm
 obtain⟨H,I,_,_⟩:=dc hd
 obtain⟨aa,h1,h2⟩:=cv (f:=ga p m d x42 x47 row) (λj s=>s=((rowW m d (pw p.In) q r K j).1,(rowW m d (pw p.In) q r K j).2.1,(rowW m d (pw p.In) q r K j).2.2,ixm 0 (rowW m d (pw p.In) q r K j).1)) k (s:=(K,[],[],ixm 0 K)) rfl (λj s hj hI=>by
  subst hI
  obtain⟨J,L,M,N,O,P⟩:=o8 hm hd g l n o hK j (by omega)
  obtain⟨a,b,c,k1,A,B,C,D,E,k7,U,G,S,y,T⟩:=rF hm hd g l n o (j:=(j:Int)) (by omega) (by omega)
  rw[w]at k1
  cases k1
  refine⟨_,?_,rfl⟩
  rw[mN]
  have R:=gk p.In
  have Q:0<=tab m.Out q j * pw p.In/\tab m.Out q j * pw p.In<=16:=by
   have hp:pw p.In=2\/pw p.In=4:=by unfold pw;split <;> simp
   rcases hp with hp | hp <;> rw[hp] <;> omega
  unfold ga
  rw[t,v,A,bI,B,bI,C,bI,mY hs,bI,D,bI,wr' (z:=tab m.Out q j * pw p.In) (by omega) (by omega),wr' (by omega) (by omega),E,bI]
  have e:kwI2 (keyW m d (pw p.In) q r j)=true:=zN G (by omega) y (by omega)
  unfold stepW
  generalize rowW m d (pw p.In) q r K j=F at *
  generalize keyW m d (pw p.In) q r j=u at *
  dsimp only
  rw[show((u.1,u.2):Key)=u from rfl,wO F.1 e,bI]
  unfold addK atK
  cases x:loc F.1 u with
  | some i=>
   simp only[zZ,cond_false,bI]
   rw[app1 (by omega) rfl,bI,app1 (by omega) rfl]
   rfl
  | none=>
   simp only[Bool.not_false,cond_true]
   rw[wQ e x,bI,app1 (by omega) rfl,bI,bI]
   dsimp only
   rw[app1 (by omega) rfl,bI,app1 (by omega) rfl]
   rfl)
 rw[h1,h2]
theorem zE {q r:Int}(l:0<=q) (n:q<m.Next.length) (t:0<=r) (v:r<d.Next.length){K:List Key}(hK:Kin m.Next.length d.Next.length K) (hl:K.length<=1000){s1:WS}{i:Nat}(hi:s1.1=(i:Int)) (x:K[i]? =some (q,r)):
 ∃z,bU (fb p m d s1) (2 ^ 64) ([],[],0,K.map (·.1),K.map (·.2))=some (.inr ((rowW m d (pw p.In) q r K k).2.1,(rowW m d (pw p.In) q r K k).2.2,z,(rowW m d (pw p.In) q r K k).1.map (·.1),(rowW m d (pw p.In) q r K k).1.map (·.2))):=by
 obtain⟨V,W,X,Y,Z⟩:=cB hm
 obtain⟨G,H,_,_⟩:=dc hd
 have P:=gk p.In
 obtain⟨y,_⟩:=ez hs
 obtain⟨o,h1,h2⟩:=cC (f:=fb p m d s1) (λj s=>s=((rowW m d (pw p.In) q r K j).2.1,(rowW m d (pw p.In) q r K j).2.2,(j:Int),(rowW m d (pw p.In) q r K j).1.map (·.1),(rowW m d (pw p.In) q r K j).1.map (·.2))/\j<=k)
  (λ_=>False) (λs=>s=((rowW m d (pw p.In) q r K k).2.1,(rowW m d (pw p.In) q r K k).2.2,(k:Int),(rowW m d (pw p.In) q r K k).1.map (·.1),(rowW m d (pw p.In) q r K k).1.map (·.2))) k (λj s ⟨hI,hj⟩=>by
  subst hI
  unfold fb iJ
  rw[dg y,bI,bI]
  by_cases e:(j:Int)<pw p.In
  · obtain⟨I,J,L,M,N,w⟩:=o8 hm hd l n t v hK j (by omega)
    obtain⟨a,b,c,k1,A,B,C,D,E,k7,T,U,Q,R,S⟩:=rF hm hd l n t v (j:=(j:Int)) (by omega) (by omega)
    have O:0<=tab m.Out q j * pw p.In/\tab m.Out q j * pw p.In<=16:=by
     have hp:pw p.In=2\/pw p.In=4:=by unfold pw;split <;> simp
     rcases hp with hp | hp <;> rw[hp] <;> omega
    have hr:=mN m d (pw p.In) q r K j
    have g:=w i _ x
    refine⟨.inr (.inr ((rowW m d (pw p.In) q r K (j+1)).2.1,(rowW m d (pw p.In) q r K (j+1)).2.2,((j+1:Nat):Int),(rowW m d (pw p.In) q r K (j+1)).1.map (·.1),(rowW m d (pw p.In) q r K (j+1)).1.map (·.2))),?_,by omega,rfl,by omega⟩
    rw[hr]
    unfold stepW
    generalize rowW m d (pw p.In) q r K j=F at *
    generalize hu:keyW m d (pw p.In) q r j=u at *
    simp only[e,decide_true,cond_true]
    rw[hi,bS,bS,show(F.1.map (·.1))[i]? =some q from by rw[List.getElem?_map,g];rfl,show(F.1.map (·.2))[i]? =some r from by rw[List.getElem?_map,g];rfl]
    simp only[bI,k1,A,B,C,D]
    rw[wr' (z:=tab m.Out q j * pw p.In) (by omega) (by omega),wr' (by omega) (by omega),E,bI,uP (K:=F.1) rfl rfl (by omega),bI,app1 (by omega) rfl,bI,app1 (by omega) rfl,bI,wr' (by omega) (by omega)]
    rfl
  · have:j=k:=by omega
    subst this
    refine⟨.inr (.inl _),?_,rfl⟩
    simp only[e,decide_false,cond_false]) (2 ^ 64) 0 ([],[],0,K.map (·.1),K.map (·.2)) (by omega) ⟨rfl,by omega⟩ (by omega)
 match o,h2 with
 | .inr s,h2=>exact⟨(k:Int),by rw[h1,h2]⟩
end
end Go.Proofs.YtleekpaohfpooaaGreat
set_option linter.unusedVariables false
set_option linter.unusedSimpArgs false
namespace Go.Proofs.YtleekpaohfpooaaGreat
open Go Go.Wk Go.Proofs
theorem tu (row:List Int) (v:Int):gJ row v=some (row.any (λx=>v==x)):=by
 unfold gJ
 rw[eN (f:=gN row v) (r:=true) (λx=> !(v==x)) (xs:=row) rfl (λi y hy=>by
  unfold gN
  rw[bS,hy,bI,show(y==v)=(v==y) from BEq.comm]
  cases v==y <;> rfl),List.any_eq_not_all_not]
 cases row.all (λx=> !(v==x)) <;> rfl
def partN (K:List Key) (S:List Int):Nat->List Int
 | 0=>[]
 | j+1=>bif (match K[j]? with | some k=>S.any (λx=>k.2==x) | none=>false) then partN K S j++[(j:Int)] else partN K S j
theorem mK (K:List Key) (S:List Int):∀j,(partN K S j).length<=j
 | 0=>Nat.le_refl _
 | j+1=>by
  have:=mK K S j
  unfold partN
  cases(match K[j]? with | some k=>S.any (λx=>k.2==x) | none=>false) with
  | false=>exact Nat.le_succ_of_le this
  | true=>simpa using this
theorem xl {x:l30Graph}{K:List Key}(h2:x.by0=K.map (·.2)) (hl:K.length<=1000) (S:List Int):jU x S=some (partN K S K.length):=by
 unfold jU
 obtain⟨c,a,b⟩:=cv (f:=iO x S) (λj s=>s=partN K S j) K.length (s:=[]) rfl (λj s hj hI=>by
  subst hI
  obtain⟨k,hk⟩:∃k,K[j]? =some k:=⟨_,bJ hj⟩
  have:=mK K S j
  refine⟨_,?_,rfl⟩
  unfold iO
  rw[bS,show x.by0[j]? =some k.2 from by rw[h2,List.getElem?_map,hk];rfl,bI,tu,bI]
  conv=>rhs;unfold partN
  rw[hk]
  dsimp only
  cases S.any (λx=>k.2==x) with
  | false=>rfl
  | true=>
   simp only[cond_true]
   rw[app1 (by omega) rfl];rfl)
 rw[h2,Ah,a,b];rfl
def partP (K:List Key) (x:Pair):Pair:=⟨partN K x.Ask K.length,partN K x.Give K.length⟩
theorem yV {a:WT}(hl:a.1.length<=1000) (x:Pair):cntM (gf a x) a.1.length 0 ([],[])=some (.inr (partN a.1 x.Ask a.1.length,partN a.1 x.Give a.1.length)):=by
 obtain⟨d,b,c⟩:=cv (f:=gf a x) (λj s=>s=(partN a.1 x.Ask j,partN a.1 x.Give j)) a.1.length (s:=([],[])) rfl (λj s hj hI=>by
  subst hI
  obtain⟨k,hk⟩:∃k,a.1[j]? =some k:=⟨_,bJ hj⟩
  have:=mK a.1 x.Ask j
  have:=mK a.1 x.Give j
  refine⟨_,?_,rfl⟩
  unfold gf
  rw[bS,hk,bI,cL,bI,cL]
  conv=>rhs;unfold partN
  rw[hk]
  dsimp only
  cases x.Ask.any (λx=>k.2==x) <;> cases x.Give.any (λx=>k.2==x) <;> simp only[cond_true,cond_false,bI]
  · rw[app1 (by omega) rfl];rfl
  · rw[app1 (by omega) rfl];rfl
  · rw[app1 (by omega) rfl,bI,bI,app1 (by omega) rfl];rfl)
 rw[b,c]
section
variable {p:Sig}{m:Machine}{d:Det}(hs:sigOk p=true) (hm:machOk p m=true) (hd:detOk p d=true)
include hs hm hd
end
end Go.Proofs.YtleekpaohfpooaaGreat
set_option linter.unusedVariables false
set_option linter.unusedSimpArgs false
namespace Go.Proofs.YtleekpaohfpooaaGreat
open Go Go.Wk Go.Proofs
def kyW (m:Machine) (d:Det) (ins:Int) (v:Key) (x:Int):Key:=keyW m d ins v.1 v.2 x
def letW (m:Machine) (ins:Int) (v:Key) (x:Int):Int:=tab m.Out v.1 x * ins+x
theorem qX (m:Machine) (d:Det) (ins:Int) (v:Key) (K:List Key):∀j:Nat,(rowW m d ins v.1 v.2 K j).1=(rowK (kyW m d ins v) K j).1/\(rowW m d ins v.1 v.2 K j).2.1=(rowK (kyW m d ins v) K j).2/\(rowW m d ins v.1 v.2 K j).2.2=(nums j).map (letW m ins v)
 | 0=>⟨rfl,rfl,rfl⟩
 | j+1=>by
  obtain⟨h1,h2,a⟩:=qX m d ins v K j
  rw[mN]
  unfold stepW
  dsimp only
  have e:rowK (kyW m d ins v) K (j+1)=(addK (rowK (kyW m d ins v) K j).1 (kyW m d ins v j),(rowK (kyW m d ins v) K j).2++[atK (rowK (kyW m d ins v) K j).1 (kyW m d ins v j)]):=rfl
  rw[h1,h2,a,e,qP,List.map_append]
  exact⟨rfl,rfl,rfl⟩
inductive RchW (ky:Key->Int->Key) (k:Nat):Key->Prop
 | zero:RchW ky k (0,0)
 | step {v:Key} {x:Nat} (h:RchW ky k v) (hx:x<k):RchW ky k (ky v x)
def ManyK (m:Machine) (d:Det) (ins:Int) (k:Nat):Prop:=∃K:List Key,256<K.length/\K.Nodup/\Kin m.Next.length d.Next.length K/\∀v∈K,RchW (kyW m d ins) k v
def InvX (m:Machine) (d:Det) (ins:Int) (k:Nat) (t:WT):Prop:=Prod (kyW m d ins) k t.1 t.2.1.toNat t.2.2.1/\t.2.2.2.1.length=t.2.2.1.length/\(∀(j:Nat) l,t.2.2.2.1[j]? =some l->∃v,t.1[j]? =some v/\l=(nums k).map (letW m ins v))/\∀v∈t.1,RchW (kyW m d ins) k v
theorem InvX.init (m:Machine) (d:Det) (ins:Int) (k:Nat):InvX m d ins k ([(0,0)],0,[],[],ixm 0 [(0,0)]):=⟨Prod.init _ _,rfl,λj l h=>by simp at h,λv a=>by rw[z6.1 a];exact .zero⟩
theorem InvX.step {m:Machine}{d:Det}{ins:Int}{k:Nat}{K:List Key}{i:Nat}{s a:List (List Int)}{ix w:List (Key×Int)}(h:InvX m d ins k (K,(i:Int),s,a,ix)){q r:Int}(c:K[i]? =some (q,r)):
 InvX m d ins k ((rowW m d ins q r K k).1,(i:Int)+1,s++[(rowW m d ins q r K k).2.1],a++[(rowW m d ins q r K k).2.2],w):=by
 obtain⟨h1,h2,p,b⟩:=h
 dsimp only at h1 h2 p b
 obtain⟨g,n,o⟩:=qX m d ins (q,r) K k
 dsimp only at g n o
 have f:=lO (kyW m d ins (q,r)) K k
 unfold InvX
 dsimp only
 rw[g,n,o]
 rw[Int.toNat_natCast]at h1
 have hs:=h1.step c
 have hrl:=h1.rl
 refine⟨?_,by simp[h2],λj l hj=>?_,λv u=>?_⟩
 · rw[show((i:Int)+1).toNat=i+1 from by omega];exact hs
 · by_cases e:j<a.length
   · rw[List.getElem?_append_left e]at hj
     obtain⟨v,y,z⟩:=p j l hj
     exact⟨v,f.pre j v y,z⟩
   · have hjl:=(bK.1 hj).1
     rw[z5]at hjl
     simp only[z8,Aa]at hjl
     have:j=i:=by omega
     subst this
     have t:a.length=j:=by omega
     rw[← t]at hj
     simp at hj
     exact⟨(q,r),f.pre j _ c,hj.symm⟩
 · rcases f.mem v u with h | ⟨x,hx,e⟩
   · exact b v h
   · rw[e];exact .step (b _ (bQ c)) hx
section
variable {p:Sig}{m:Machine}{d:Det}(hs:sigOk p=true) (hm:machOk p m=true) (hd:detOk p d=true){k:Nat}(hk:pw p.In=(k:Int))
include hs hm hd hk
theorem tK:∃o t,bU (fa p m d) (2 ^ 64) (0,[0],[0],[],[])=some o/\bU (fZ p m d) (2 ^ 64) ([(0,0)],0,[],[],ixm 0 [(0,0)])=some t /\
 ((∃t',o= .inr (toS t')/\t= .inr t'/\InvW m d k t'/\InvX m d (pw p.In) k t'/\t'.2.1=t'.1.length)\/(o= .inl (⟨[],[],[],[]⟩,false)/\t= .inl (none,false)/\ManyK m d (pw p.In) k)):=by
 obtain⟨ac,ad,ae,R,af⟩:=cB hm
 obtain⟨V,W,_,_⟩:=dc hd
 have ab:=gk p.In
 obtain⟨o,t,h1,h2,a⟩:=mX (f:=fa p m d) (g:=fZ p m d) (λs t=>s=toS t/\InvW m d k t/\InvX m d (pw p.In) k t) (λs=>300-s.1.toNat) (λr r'=>r=(⟨[],[],[],[]⟩,false)/\r'=(none,false)/\ManyK m d (pw p.In) k) (λs t=>s=toS t/\InvW m d k t/\InvX m d (pw p.In) k t/\t.2.1=t.1.length) (λs t ⟨P,hI,D⟩=>by
  subst P
  obtain⟨hK,G,Q,S,T,H,I,U⟩:=id hI
  obtain⟨K,B,c,b,ix⟩:=t
  dsimp only at hK G Q S T H I U
  subst I
  unfold fa fZ toS
  dsimp only
  rw[Ah]
  by_cases A:B<(K.length:Int)
  · obtain⟨i,rfl⟩:=cY G
    obtain⟨⟨q,r⟩,e⟩:∃v,K[i]? =some v:=⟨_,bJ (by omega)⟩
    obtain⟨j,l,u,w⟩:=hK _ (bQ e)
    dsimp only at j l u w
    obtain⟨row,E,O⟩:=gK (xs:=m.Next) j l
    have hrl:row.length=k:=by have:=(R row O).1;omega
    obtain⟨z,N⟩:=zE hs hm hd hk j l u w hK (by omega) (s1:=((i:Int),K.map (·.1),K.map (·.2),c,b)) (i:=i) rfl e
    have M:=yX hs hm hd hk j l u w hK (by omega) (x42:=(q,r)) (x47:=(q,r)) rfl rfl E
    have y:InvX m d (pw p.In) k ((rowW m d (pw p.In) q r K k).1,(i:Int)+1,c++[(rowW m d (pw p.In) q r K k).2.1],b++[(rowW m d (pw p.In) q r K k).2.2],ixm 0 (rowW m d (pw p.In) q r K k).1):=InvX.step D e
    obtain⟨C,X,Y,J,Z,L⟩:=o8 hm hd j l u w hK k (by omega)
    generalize rowW m d (pw p.In) q r K k=F at *
    simp only[A,decide_true,cond_true,bS,e,bI,E,hrl,N,M,bV,Ah]
    by_cases n:(256:Int)<(F.1.length:Int)
    · refine⟨.inl (⟨[],[],[],[]⟩,false),.inl (none,false),?_,?_,rfl,rfl,F.1,by omega,y.1.nod,C,y.2.2.2⟩
      · simp only[n,decide_true,cond_true]
      · simp only[n,decide_true,cond_true]
    · have aa:=(bK.1 (L i _ e)).1
      refine⟨.inr (.inr (toS (F.1,(i:Int)+1,c++[F.2.1],b++[F.2.2],ixm 0 F.1))),.inr (.inr (F.1,(i:Int)+1,c++[F.2.1],b++[F.2.2],ixm 0 F.1)),?_,?_,⟨rfl,⟨C,?_,?_,?_,?_,?_,rfl,?_⟩,y⟩,?_⟩
      · simp only[n,decide_false,cond_false]
        rw[app1 (by omega) rfl,bI,app1 (by omega) rfl,bI,wr' (by omega) (by omega)]
        rfl
      · simp only[n,decide_false,cond_false]
        rw[app1 (by omega) rfl,bI,app1 (by omega) rfl,bI,wr' (by omega) (by omega)]
      · show 0<=(i:Int)+1;omega
      · show(i:Int)+1<=(F.1.length:Int);omega
      · show((c++[F.2.1]).length:Int)=(i:Int)+1;simp;omega
      · show((b++[F.2.2]).length:Int)=(i:Int)+1;simp;omega
      · intro x hx
        rcases Ad.1 hx with hx | hx
        · exact H x hx
        · rw[z6.1 hx];exact J
      · show F.1.length<=256;omega
      · show 300-((i:Int)+1).toNat<300-(i:Int).toNat;omega
  · refine⟨.inr (.inl (toS (K,B,c,b,ixm 0 K))),.inr (.inl (K,B,c,b,ixm 0 K)),?_,?_,rfl,hI,D,by dsimp only;omega⟩
    · simp only[A,decide_false,cond_false];rfl
    · simp only[A,decide_false,cond_false]) (2 ^ 64) (2 ^ 64) (0,[0],[0],[],[]) ([(0,0)],0,[],[],ixm 0 [(0,0)]) (by show 300-0<_;omega) (by show 300-0<_;omega) ⟨rfl,⟨λk hk=>by
      rw[z6.1 hk]
      exact⟨by simp,by show(0:Int)<_;omega,by simp,by show(0:Int)<_;omega⟩,by simp,by simp,by simp,by simp,by simp,rfl,by simp⟩,InvX.init m d (pw p.In) k⟩
 match o,t,a with
 | .inl r,.inl r',a=>exact⟨_,_,h1,h2,.inr ⟨by rw[a.1],by rw[a.2.1],a.2.2⟩⟩
 | .inr s,.inr t',a=>exact⟨_,_,h1,h2,.inl ⟨t',by rw[a.1],rfl,a.2⟩⟩
structure WK (p:Sig) (m:Machine) (d:Det) (k:Nat) (K:List Key) (w:watch):Prop where
 prod:Prod (kyW m d (pw p.In)) k K K.length w.next
 kin:Kin m.Next.length d.Next.length K
 le:K.length<=256
 let_:w.letters.length=K.length/\∀(j:Nat) v,K[j]? =some v->w.letters[j]? =some ((nums k).map (letW m (pw p.In) v))
 pairs:w.pairs=d.Pairs.map (partP K)
omit hs hm hd hk in
theorem mL (K:List Key) (S:List Int):∀j,j<=K.length->partN K S j=plK (·.2) K S j
 | 0,_=>rfl
 | j+1,hj=>by
  have c:=mL K S j (by omega)
  have e:plK (·.2) K S (j+1)=plK (·.2) K S j++(match K[j]? with | some v=>if v.2∈S then[(j:Int)] else[] | none=>[]):=rfl
  have b:K[j]? =some K[j]:=bJ (by omega)
  have a:partN K S (j+1)=bif (match K[j]? with | some k=>S.any (λx=>k.2==x) | none=>false) then partN K S j++[(j:Int)] else partN K S j:=rfl
  rw[e,a,c,b]
  dsimp only
  by_cases h:K[j].2∈S
  · have:S.any (λx=>K[j].2==x)=true:=List.any_eq_true.2 ⟨_,h,by simp⟩
    rw[this,cond_true,if_pos h]
  · have:S.any (λx=>K[j].2==x)=false:=by
     rw[List.any_eq_false];intro x hx;simp;exact λe=>h (e ▸ hx)
    rw[this,cond_false,if_neg h,List.append_nil]
theorem qB:(jg p m d=some (⟨[],[],[],[]⟩,false)/\jQ p m d=some (none,false)/\ManyK m d (pw p.In) k) \/
 ∃(g:l30Graph) (w:watch) (K:List Key),jg p m d=some (g,true)/\jQ p m d=some (some w,true)/\cntM (eK d (g,true)) d.Pairs.length 0 []=some (.inr w.pairs)/\g.next=w.next/\g.letters=w.letters/\WK p m d k K w:=by
 have N:=gk p.In
 obtain⟨_,_,M,_⟩:=dc hd
 obtain⟨o,t,h1,h2,q⟩:=tK hs hm hd hk
 have hf:jf ⟨[],[],[],[]⟩ 0 0=some (0,[0],[0]):=by
  rw[uP (K:=[]) rfl rfl (by simp)];rfl
 have E:mset kwI2 ([]:List (Key×Int)) ((0,0):Key) 0=some (ixm 0 [(0,0)]):=by decide
 unfold jg jQ
 rw[hf,bI,E,bI]
 dsimp only
 rw[h1,h2,bI,bI]
 rcases q with ⟨t',rfl,rfl,hI,z,hl⟩ | ⟨rfl,rfl,A⟩
 · right
   obtain⟨hK,O,P,Q,R,S,T,G⟩:=hI
   obtain⟨n,U,L,_⟩:=z
   have r:∀(g:l30Graph×Bool),g.1.by0=t'.1.map (·.2)->cntM (eK d g) d.Pairs.length 0 []=some (.inr (d.Pairs.map (partP t'.1)))/\cntM (gc d t') d.Pairs.length 0 []=some (.inr (d.Pairs.map (partP t'.1))):=λg c=>by
    have B:∀(xs:List Pair) (a:List Pair),xs.foldl (λs y=>s++[partP t'.1 y]) a=a++xs.map (partP t'.1):=λxs=>by
     induction xs with
     | nil=>intro a;simp
     | cons x xs F=>intro a;rw[List.foldl_cons,F];simp
    obtain⟨a1,_⟩:=og (f:=eK d g) (λs y=>s++[partP t'.1 y]) (λj s=>s.length=j) (xs:=d.Pairs) (λi y s hy hs=>by
     have C:=(bK.1 hy).1
     refine⟨?_,by simp[hs]⟩
     unfold eK
     rw[bS,hy,bI,bI,xl c (by omega),bI,xl c (by omega),bI,app1 (by omega) rfl];rfl) (s:=[]) rfl
    obtain⟨b,_⟩:=og (f:=gc d t') (λs y=>s++[partP t'.1 y]) (λj s=>s.length=j) (xs:=d.Pairs) (λi y s hy hs=>by
     have C:=(bK.1 hy).1
     refine⟨?_,by simp[hs]⟩
     unfold gc
     rw[bS,hy,bI,yV (by omega),bI]
     simp only[bV]
     rw[app1 (by omega) rfl];rfl) (s:=[]) rfl
    rw[B,List.nil_append]at a1 b
    exact⟨a1,b⟩
   obtain⟨H,I⟩:=r (⟨t'.1.map (·.1),t'.1.map (·.2),t'.2.2.1,t'.2.2.2.1⟩,true) rfl
   have D:t'.2.1.toNat=t'.1.length:=by omega
   rw[D]at n
   refine⟨⟨t'.1.map (·.1),t'.1.map (·.2),t'.2.2.1,t'.2.2.2.1⟩,⟨t'.2.2.1,t'.2.2.2.1,d.Pairs.map (partP t'.1)⟩,t'.1,rfl,?_,H,rfl,rfl,n,hK,G,⟨?_,λj v e=>?_⟩,rfl⟩
   · simp only[bV]
     rw[I];rfl
   · show t'.2.2.2.1.length=t'.1.length;omega
   · have hj:=(bK.1 e).1
     have hjl:j<t'.2.2.2.1.length:=by omega
     obtain⟨u,l,J⟩:=L j _ (bJ hjl)
     rw[e]at l
     cases l
     show t'.2.2.2.1[j]? =_
     rw[bJ hjl,J]
 · exact .inl ⟨rfl,rfl,A⟩
end
end Go.Proofs.YtleekpaohfpooaaGreat
set_option linter.unusedVariables false
set_option linter.unusedSimpArgs false
namespace Go.Proofs.YtleekpaohfpooaaGreat
open Go Go.Wk Go.Proofs
open Classical
inductive Wy (sc:Int->List Int) (D:Int->Prop):Int->Int->Prop
 | one {x} (h:¬D x):Wy sc D x x
 | cons {x y z} (h:¬D x) (e:y∈sc x) (w:Wy sc D y z):Wy sc D x z
namespace Wy
variable {sc bk:Int->List Int}{D D':Int->Prop}{x y z:Int}
theorem first (w:Wy sc D x y):¬D x:=by cases w <;> assumption
theorem last (w:Wy sc D x y):¬D y:=by induction w <;> assumption
theorem trans (w:Wy sc D x y) (v:Wy sc D y z):Wy sc D x z:=by
 induction w with
 | one _=>exact v
 | cons h e _ a=>exact .cons h e (a v)
theorem snoc (w:Wy sc D x y) (e:z∈sc y) (h:¬D z):Wy sc D x z:=w.trans (.cons w.last e (.one h))
theorem mono (h:∀x,D' x->D x) (w:Wy sc D x y):Wy sc D' x y:=by
 induction w with
 | one k=>exact .one λd=>k (h _ d)
 | cons k e _ a=>exact .cons (λd=>k (h _ d)) e a
theorem rev (hb:∀x y,y∈bk x->x∈sc y) (w:Wy bk D x y):Wy sc D y x:=by
 induction w with
 | one k=>exact .one k
 | cons k e _ a=>exact a.snoc (hb _ _ e) k
theorem closed {T:Int->Prop}(c:∀a b,T a->b∈sc a->¬D b->T b) (w:Wy sc D x y) (hx:T x):T y:=by
 induction w with
 | one _=>exact hx
 | cons _ e w d=>exact d (c _ _ hx e w.first)
theorem either {T:Int->Prop}(d:∀a b,T a->b∈sc a->¬D b->T b) (w:Wy sc D x y):T y\/Wy sc (λa=>D a\/T a) x y:=by
 induction w with
 | @one x k=>
  by_cases t:T x
  · exact .inl t
  · exact .inr (.one λh=>h.elim k t)
 | @cons x y z k e w c=>
  rcases c with c | c
  · exact .inl c
  · by_cases t:T x
    · exact .inl (w.closed d (d _ _ t e w.first))
    · exact .inr (.cons (λh=>h.elim k t) e c)
theorem avoid {u:Int}(w:Wy sc D x y):Wy sc D x u\/Wy sc (λa=>D a\/a=u) x y:=by
 induction w with
 | @one x k=>
  by_cases t:x=u
  · subst t;exact .inl (.one k)
  · exact .inr (.one λh=>h.elim k t)
 | @cons x y z k e w b=>
  rcases b with b | b
  · exact .inl (.cons k e b)
  · by_cases t:x=u
    · subst t;exact .inl (.one k)
    · exact .inr (.cons (λh=>h.elim k t) e b)
end Wy
inductive Dfs (sc:Int->List Int):(Int->Prop)->List Int->List Int->Prop
 | nil {D}:Dfs sc D [] []
 | skip {D u us S} (h:D u) (k:Dfs sc D us S):Dfs sc D (u::us) S
 | step {D u us S1 S2} (h:¬D u) (k1:Dfs sc (λx=>D x\/x=u) (sc u) S1) (k2:Dfs sc (λx=>D x\/x=u\/x∈S1) us S2):Dfs sc D (u::us) (S1++u::S2)
namespace Dfs
variable {sc bk:Int->List Int}{D:Int->Prop}{us S:List Int}
theorem out (k:Dfs sc D us S):∀x∈S,¬D x:=by
 induction k with
 | nil=>intro x h;cases h
 | skip _ _ ih=>exact ih
 | step h _ _ a b=>
  intro x hx
  rcases Ad.1 hx with hx | hx
  · exact λd=>a x hx (.inl d)
  · rcases List.mem_cons.1 hx with e | hx
    · subst e;exact h
    · exact λd=>b x hx (.inl d)
theorem nodup (k:Dfs sc D us S):S.Nodup:=by
 induction k with
 | nil=>exact List.nodup_nil
 | skip _ _ ih=>exact ih
 | step h k1 c d f=>
  refine List.nodup_append.2 ⟨d,List.nodup_cons.2 ⟨λhm=>c.out _ hm (.inr (.inl rfl)),f⟩,λa ha b hb e=>?_⟩
  subst e
  rcases List.mem_cons.1 hb with e | hb
  · exact k1.out _ ha (.inr e)
  · exact c.out _ hb (.inr (.inr ha))
theorem clo (k:Dfs sc D us S):(∀u∈us,D u\/u∈S)/\∀x∈S,∀y∈sc x,D y\/y∈S:=by
 induction k with
 | nil=>exact⟨λu h=>(by cases h),λu h=>(by cases h)⟩
 | skip h _ ih=>
  refine⟨λu c=>?_,ih.2⟩
  rcases List.mem_cons.1 c with e | c
  · subst e;exact .inl h
  · exact ih.1 u c
 | @step D u us a b h k1 i f g=>
  have c1:∀y,(D y\/y=u)\/y∈a->D y\/y∈a++u::b:=λy hy=>by
   rcases hy with (d | e) | m
   · exact .inl d
   · subst e;exact .inr (by simp)
   · exact .inr (by simp[m])
  have c2:∀y,(D y\/y=u\/y∈a)\/y∈b->D y\/y∈a++u::b:=λy hy=>by
   rcases hy with (d | e | m) | m
   · exact .inl d
   · subst e;exact .inr (by simp)
   · exact .inr (by simp[m])
   · exact .inr (by simp[m])
  refine⟨λx hx=>?_,λx hx y hy=>?_⟩
  · rcases List.mem_cons.1 hx with e | hx
    · subst e;exact .inr (by simp)
    · exact c2 _ (g.1 x hx)
  · rcases Ad.1 hx with hx | hx
    · exact c1 _ (f.2 x hx y hy)
    · rcases List.mem_cons.1 hx with e | hx
      · subst e;exact c1 _ (f.1 y hy)
      · exact c2 _ (g.2 x hx y hy)
theorem sound (k:Dfs sc D us S):∀x∈S,∃u∈us,Wy sc D u x:=by
 induction k with
 | nil=>intro x h;cases h
 | skip _ _ ih=>
  intro x hx
  obtain⟨u,h1,h2⟩:=ih x hx
  exact⟨u,List.mem_cons_of_mem _ h1,h2⟩
 | @step D u us f g h k1 i a b=>
  intro x hx
  rcases Ad.1 hx with hx | hx
  · obtain⟨c,h1,h2⟩:=a x hx
    exact⟨u,by simp,.cons h h1 (h2.mono λ_ d=> .inl d)⟩
  · rcases List.mem_cons.1 hx with e | hx
    · subst e;exact⟨x,by simp,.one h⟩
    · obtain⟨c,h1,h2⟩:=b x hx
      exact⟨c,List.mem_cons_of_mem _ h1,h2.mono λ_ d=> .inl d⟩
theorem mem_iff (k:Dfs sc D us S) (x:Int):x∈S↔∃u∈us,Wy sc D u x:=by
 refine⟨k.sound x,λ⟨u,h1,h2⟩=>?_⟩
 have c:∀a b,a∈S->b∈sc a->¬D b->b∈S:=λa b ha hb hd=>(k.clo.2 a ha b hb).resolve_left hd
 exact h2.closed (T:=λa=>a∈S) c ((k.clo.1 u h1).resolve_left h2.first)
theorem kos (k:Dfs sc D us S):∀x∈S,∀v,Wy sc D x v->∃f,Wy sc D x f/\Wy sc D f x/\∃A B,S=A++f::B/\(v∈A\/v=f):=by
 induction k with
 | nil=>intro x h;cases h
 | skip _ _ ih=>exact ih
 | @step D u us g l h k1 z r y=>
  intro x hx v w
  have p:∀a b,(a∈g\/a=u)->b∈sc a->¬D b->(b∈g\/b=u):=λa b ha hb hd=>by
   have:(D b\/b=u)\/b∈g:=by
    rcases ha with ha | ha
    · exact k1.clo.2 a ha b hb
    · subst ha;exact k1.clo.1 b hb
   rcases this with (d | e) | m
   · exact absurd d hd
   · exact .inr e
   · exact .inl m
  have o:Wy sc D x u->(x∈g\/x=u)->∃f,Wy sc D x f/\Wy sc D f x/\∃A B,g++u::l=A++f::B/\(v∈A\/v=f):=λj q=>by
   refine⟨u,j,?_,g,l,rfl,w.closed (T:=λa=>a∈g\/a=u) p q⟩
   rcases q with m | e
   · obtain⟨c,h1,h2⟩:=k1.sound x m
     exact .cons h h1 (h2.mono λ_ d=> .inl d)
   · subst e;exact .one h
  rcases Ad.1 hx with m | m
  · by_cases j:Wy sc D x u
    · exact o j (.inl m)
    · rcases w.avoid (u:=u) with k | k
      · exact absurd k j
      · obtain⟨f,w1,n,A,B,e,i⟩:=r x m v k
        exact⟨f,w1.mono λ_ d=> .inl d,n.mono λ_ d=> .inl d,A,B++u::l,by rw[e];simp,i⟩
  · rcases List.mem_cons.1 m with e | m
    · subst e;exact o (.one w.first) (.inr rfl)
    · rcases w.either (T:=λa=>a∈g\/a=u) p with t | t
      · obtain⟨A,B,e⟩:=List.append_of_mem m
        refine⟨x,.one w.first,.one w.first,g++u::A,B,by rw[e];simp,.inl ?_⟩
        rcases t with t | t
        · simp[t]
        · simp[t]
      · have t':Wy sc (λa=>D a\/a=u\/a∈g) x v:=t.mono λa ha=>by
         rcases ha with d | e | s
         · exact .inl d
         · exact .inr (.inr e)
         · exact .inr (.inl s)
        obtain⟨f,w1,n,A,B,e,i⟩:=y x m v t'
        refine⟨f,w1.mono λ_ d=> .inl d,n.mono λ_ d=> .inl d,g++u::A,B,by rw[e];simp,?_⟩
        rcases i with i | i
        · exact .inl (by simp[i])
        · exact .inr i
end Dfs
inductive Kos (bk:Int->List Int):(Int->Prop)->List Int->List (List Int)->Prop
 | nil {D}:Kos bk D [] []
 | skip {D v R P} (h:D v) (k:Kos bk D R P):Kos bk D (v::R) P
 | step {D v R S P} (h:¬D v) (d:Dfs bk D [v] S) (k:Kos bk (λx=>D x\/x∈S) R P):Kos bk D (v::R) (S::P)
def noV:Int->Prop:=λ_=>False
def Akin (sc:Int->List Int) (x y:Int):Prop:=Wy sc noV x y/\Wy sc noV y x
section
variable {sc bk:Int->List Int}
theorem Akin.refl (x:Int):Akin sc x x:=⟨.one id,.one id⟩
theorem Akin.symm {x y:Int}(h:Akin sc x y):Akin sc y x:=⟨h.2,h.1⟩
theorem Akin.trans {x y z:Int}(h:Akin sc x y) (k:Akin sc y z):Akin sc x z:=⟨h.1.trans k.1,k.2.trans h.2⟩
theorem ahead {Q R A B:List Int}{v y:Int}(hn:(Q++v::R).Nodup) (e:Q++v::R=B++y::A) (h:v∈A):y∈Q:=by
 have hy:y∈Q++v::R:=by rw[e];simp
 rcases Ad.1 hy with m | m
 · exact m
 · exfalso
   have h1:(B++y::A).Nodup:=by rw[← e];exact hn
   obtain⟨k,l,i⟩:=List.nodup_append.1 hn
   obtain⟨j,d,g⟩:=List.nodup_append.1 h1
   have hB:v∉B:=λf=>g v f v (List.mem_cons_of_mem _ h) rfl
   -- v stands in A, so B ++ [y] is ahead of it: it is a part of Q
   rcases List.append_eq_append_iff.1 e with ⟨T,c,b⟩ | ⟨T,c,b⟩
   · cases T with
     | nil=>
      rw[List.nil_append]at b
      injection b with e3 e4
      subst e3
      exact(List.nodup_cons.1 d).1 h
     | cons t T=>
      injection b with e3 e4
      subst e3
      exact hB (by rw[c];simp)
   · cases T with
     | nil=>
      rw[List.nil_append]at b
      injection b with e3 e4
      subst e3
      exact(List.nodup_cons.1 d).1 h
     | cons t T=>
      injection b with e3 e4
      subst e3
      exact i y (by rw[c];simp) y m rfl
theorem vH {L:List Int}(hb:∀x y,y∈bk x↔x∈sc y){O:List Int}(hd:Dfs sc noV O L) (hL:∀a b,b∈sc a->a∈L):
 ∀(D:Int->Prop) (R:List Int) (P:List (List Int)),Kos bk D R P->∀Q,L.reverse=Q++R->(∀x,D x↔∃q∈Q,Akin sc q x) ->
 (∀S∈P,S.Nodup/\∃v∈R,(¬D v)/\∀x,x∈S↔Akin sc v x)/\(∀v∈R,D v\/∃S∈P,v∈S)/\P.Pairwise (λS T=>∀x∈S,x∉T)/\∀S∈P,∀x∈S,¬D x:=by
 intro D R P hk
 induction hk with
 | nil=>exact λQ _ _=>⟨λS h=>(by cases h),λS h=>(by cases h),List.Pairwise.nil,λS h=>by cases h⟩
 | @skip D v R P h k n=>
  intro Q g hD
  obtain⟨a1,a2,t,o⟩:=n (Q++[v]) (by rw[g];simp) (λx=>by
   rw[hD]
   refine⟨λ⟨q,h1,h2⟩=>⟨q,by simp[h1],h2⟩,λ⟨q,h1,h2⟩=>?_⟩
   rcases Ad.1 h1 with m | m
   · exact⟨q,m,h2⟩
   · rw[z6]at m
     subst m
     obtain⟨p,i,z⟩:=(hD q).1 h
     exact⟨p,i,z.trans h2⟩)
  refine⟨λS j=>?_,λx hx=>?_,t,o⟩
  · obtain⟨h1,y,h2,i⟩:=a1 S j
    exact⟨h1,y,List.mem_cons_of_mem _ h2,i⟩
  · rcases List.mem_cons.1 hx with e | hx
    · subst e;exact .inl h
    · exact a2 x hx
 | @step D v R S P h d k n=>
  intro Q g hD
  have M:v∈L:=by
   have:v∈L.reverse:=by rw[g];simp
   exact List.mem_reverse.1 this
  have j:∀x,x∈S↔Akin sc v x:=λx=>by
   rw[d.mem_iff]
   constructor
   · rintro⟨u,C,w⟩
     rw[z6]at C
     subst C
     have w':=w.rev (sc:=sc) (λa b e=>(hb a b).1 e)
     have hx:x∈L:=by
      cases w' with
      | one _=>exact M
      | cons _ e _=>exact hL _ _ e
     obtain⟨G,w1,F,A,B,e,l⟩:=hd.kos x hx u (w'.mono λ_ I=>I.elim)
     rcases l with l | l
     · exfalso
       have H:Q++u::R=B.reverse++G::A.reverse:=by rw[← g,e];simp
       have hn:(Q++u::R).Nodup:=by rw[← g];exact(List.reverse_perm L).nodup_iff.2 hd.nodup
       have K:=ahead hn H (List.mem_reverse.2 l)
       exact w.last ((hD x).2 ⟨G,K,F,w1⟩)
     · subst l;exact⟨F,w1⟩
   · intro hx
     refine⟨v,by simp,?_⟩
     have E:∀y,Akin sc v y->¬D y:=λy hy J=>by
      obtain⟨q,h1,h2⟩:=(hD y).1 J
      exact h ((hD v).2 ⟨q,h1,h2.trans hy.symm⟩)
     have N:∀{a b:Int},Wy sc noV a b->Wy sc noV b a->Akin sc v b->Wy sc D a b:=λ{a b} w=>by
      induction w with
      | one _=>exact λ_ r=> .one (E _ r)
      | @cons a c b h e w n=>exact λw' r=> .cons (E _ (r.trans ⟨w',.cons h e w⟩)) e (n (w'.snoc e id) r)
     exact(N hx.2 hx.1 (Akin.refl v)).rev λa b e=>(hb b a).2 e
  obtain⟨a1,a2,t,o⟩:=n (Q++[v]) (by rw[g];simp) (λx=>by
   show(D x\/x∈S)↔_
   rw[hD,j]
   constructor
   · rintro(⟨q,h1,h2⟩ | h2)
     · exact⟨q,by simp[h1],h2⟩
     · exact⟨v,by simp,h2⟩
   · rintro⟨q,h1,h2⟩
     rcases Ad.1 h1 with m | m
     · exact .inl ⟨q,m,h2⟩
     · rw[z6]at m
       subst m;exact .inr h2)
  refine⟨λT f=>?_,λx hx=>?_,List.pairwise_cons.2 ⟨λT f x hx s=>o T f x s (.inr hx),t⟩,λT f x hx s=>?_⟩
  · rcases List.mem_cons.1 f with e | f
    · subst e
      exact⟨d.nodup,v,by simp,h,j⟩
    · obtain⟨h1,y,h2,i,z⟩:=a1 T f
      exact⟨h1,y,List.mem_cons_of_mem _ h2,λk=>i (.inl k),z⟩
  · rcases List.mem_cons.1 hx with e | hx
    · subst e;exact .inr ⟨S,by simp,(j x).2 (Akin.refl x)⟩
    · rcases a2 x hx with (k | k) | ⟨T,h1,h2⟩
      · exact .inl k
      · exact .inr ⟨S,by simp,k⟩
      · exact .inr ⟨T,List.mem_cons_of_mem _ h1,h2⟩
  · rcases List.mem_cons.1 f with e | f
    · subst e;exact d.out x hx s
    · exact o T f x hx (.inl s)
end
end Go.Proofs.YtleekpaohfpooaaGreat
set_option linter.unusedVariables false
set_option linter.unusedSimpArgs false
namespace Go.Proofs.YtleekpaohfpooaaGreat
open Go Go.Wk Go.Proofs
open Classical
def Mk (n:Nat) (d:List Bool) (S:List Int) (a:List Bool):Prop:=a.length=n/\∀x,In a x↔In d x\/x∈S
theorem Mk.cnt {n:Nat}{d c:List Bool}{S:List Int}(h:Mk n d S c) (hn:S.Nodup) (hd:∀x∈S,¬In d x):cnt d+S.length<=cnt c:=by
 have h1:(fu d d.length++S).Nodup:=List.nodup_append.2 ⟨nP _ _,hn,λa ha b hb e=>hd b hb (e ▸ dO.1 ha)⟩
 have:=ot h1 (ys:=fu c c.length) (λx hx=>dO.2 ((h.2 x).2 ((Ad.1 hx).imp dO.1 id)))
 rw[z5]at this
 exact this
theorem Mk.eq {n:Nat}{d a:List Bool}{S:List Int}(h:Mk n d S a):In a=λx=>In d x\/x∈S:=funext λx=>propext (h.2 x)
theorem Dfs.nil_eq {sc:Int->List Int}{D:Int->Prop}{S:List Int}(k:Dfs sc D [] S):S=[]:=by cases k;rfl
theorem Dfs.cat {sc:Int->List Int}{D:Int->Prop}{u:Int}{us S T:List Int}(h:¬D u) (k:Dfs sc D [u] S) (k2:Dfs sc (λx=>D x\/x∈S) us T):Dfs sc D (u::us) (S++T):=by
 generalize e:[u]=l at k
 cases k with
 | nil=>cases e
 | skip b _=>
  injection e with e1 _
  subst e1;exact absurd b h
 | @step _ _ _ a g b k1 f=>
  injection e with e1 e2
  subst e1 e2
  have c:=f.nil_eq
  subst c
  have d:(λx=>D x\/x∈a++[u])=λx=>D x\/x=u\/x∈a:=funext λx=>propext (by simp only[Ad,z6];constructor <;> (rintro(h | h | h) <;> simp[h]))
  rw[d]at k2
  have:=Dfs.step h k1 k2
  simpa using this
theorem idxB {B:List Bool}{v:Int}(h:¬In B v) (h0:0<=v) (h1:v<B.length):idx B v=some false:=by rw[dz h0 h1,decide_eq_false h]
theorem setT {d:List Bool}{n:Nat}{v:Int}(hd:d.length=n) (h0:0<=v) (h1:v<n):∃y,setI d v true=some y/\Mk n d [v] y:=by
 obtain⟨y,hy,hl⟩:=dy (xs:=d) (i:=v) true h0 (by omega)
 refine⟨y,hy,by omega,λx=>?_⟩
 unfold In
 rw[dq hy,z6]
 by_cases e:x=v
 · rw[if_pos e];simp[e]
 · rw[if_neg e];simp[e]
abbrev VS:=List Int×List Bool
theorem nG {s:Type}{f:Int->VS->Option (s⊕(VS⊕VS))}{sc:Int->List Int}{M:List Bool}{n c0:Nat}:
 ∀(us:List Int) (j:Nat) (a:List Int) (d:List Bool),
 (∀(i:Nat) u a d,us[i]? =some u->d.length=n->a.length<=cnt d->c0<=cnt d ->
  (¬(In M u/\¬In d u)->f ((j+i:Nat):Int) (a,d)=some (.inr (.inr (a,d)))) /\
  (In M u->¬In d u->∃S b,f ((j+i:Nat):Int) (a,d)=some (.inr (.inr (a++S,b)))/\Mk n d S b/\Dfs sc (In d) [u] S)) ->
 d.length=n->a.length<=cnt d->c0<=cnt d ->
 ∃S b,cntM f us.length (j:Int) (a,d)=some (.inr (a++S,b))/\Mk n d S b/\Dfs sc (In d) (us.filter (λu=>decide (In M u))) S
 | [],j,a,d,_,hd,_,_=>⟨[],d,by rw[List.append_nil];rfl,⟨hd,λx=>by simp⟩,.nil⟩
 | u::us,j,a,d,h,hd,ho,hc=>by
  obtain⟨h1,h2⟩:=h 0 u a d rfl hd ho hc
  have hr:∀(i:Nat) w a d,us[i]? =some w->d.length=n->a.length<=cnt d->c0<=cnt d ->
   (¬(In M w/\¬In d w)->f (((j+1)+i:Nat):Int) (a,d)=some (.inr (.inr (a,d)))) /\
   (In M w->¬In d w->∃S b,f (((j+1)+i:Nat):Int) (a,d)=some (.inr (.inr (a++S,b)))/\Mk n d S b/\Dfs sc (In d) [w] S):=λi w a d r=>by
   have:=h (i+1) w a d (by simpa using r)
   rw[show j+(i+1)=(j+1)+i from by omega]at this
   exact this
  by_cases hm:In M u/\¬In d u
  · obtain⟨S,p,q,e,k1⟩:=h2 hm.1 hm.2
    have t:=e.cnt k1.nodup k1.out
    obtain⟨T,k,m,g,c⟩:=nG us (j+1) (a++S) p hr e.1 (by rw[z5];omega) (by omega)
    refine⟨S++T,k,?_,⟨g.1,λx=>?_⟩,?_⟩
    · show bH (f (j:Int) (a,d)) _=_
      have l:f (j:Int) (a,d)=_:=q
      rw[l,bI]
      show cntM f us.length ((j:Int)+1) (a++S,p)=_
      have:((j:Int)+1)=((j+1:Nat):Int):=rfl
      rw[this,m,List.append_assoc]
    · rw[g.2,e.2,Ad,or_assoc]
    · rw[List.filter_cons,if_pos (by simpa using hm.1)]
      rw[e.eq]at c
      exact Dfs.cat hm.2 k1 c
  · obtain⟨T,k,m,g,c⟩:=nG us (j+1) a d hr hd ho hc
    refine⟨T,k,?_,g,?_⟩
    · show bH (f (j:Int) (a,d)) _=_
      have l:f (j:Int) (a,d)=_:=h1 hm
      rw[l,bI]
      exact m
    · rw[List.filter_cons]
      by_cases o:In M u
      · rw[if_pos (by simpa using o)]
        exact .skip (Classical.byContradiction λhn=>hm ⟨o,hn⟩) c
      · rw[if_neg (by simpa using o)]
        exact c
theorem tJ:∀m,cj m=bW m
 | 0=>rfl
 | m+1=>by
  show cE (cj m)=cm (bW m)
  rw[tJ m];rfl
theorem uG {T:List (List Int)}{M:List Bool}{n:Nat}{sc:Int->List Int}(z:T.length=n) (hM:M.length=n) (hn:n<=256)
 (hr:∀v row,idx T v=some row->∀u∈row,0<=u/\u<n) (hs:∀v row,In M v->idx T v=some row->sc v=row.filter (λu=>decide (In M u))):
 ∀(m:Nat) (v:Int) (a:List Int) (d:List Bool),In M v->¬In d v->d.length=n->a.length<=cnt d->n<m+cnt d ->
 ∃S b,bW m v T a d M=some (a++S,b)/\Mk n d S b/\Dfs sc (In d) [v] S
 | 0,v,a,d,_,_,hd,_,hm=>absurd hm (by have:=lG d;omega)
 | m+1,v,a,d,hv,hdv,hd,p,hm=>by
  obtain⟨o,E⟩:=eM hM hv
  obtain⟨y,hy,g⟩:=setT hd o E
  obtain⟨row,l⟩:=cF (xs:=T) (i:=v) o (by omega)
  have A:=g.cnt (by simp) (λx hx=>by rw[z6]at hx;subst hx;exact hdv)
  simp only[z8,Aa]at A
  have G:=lG y
  obtain⟨S,j,s,c,k1⟩:=nG (f:=ck (bW m) T M row) (sc:=sc) (M:=M) (n:=n) (c0:=cnt y) row 0 a y (λi u a d q hd p hc=>by
   obtain⟨r,J⟩:=hr v row l u (bQ q)
   unfold ck
   rw[Nat.zero_add,bS,q,bI,dz (B:=M) r (by omega),bI,dz (B:=d) r (by omega)]
   refine⟨λC=>?_,λh1 h2=>?_⟩
   · by_cases h1:In M u
     · have h2:In d u:=Classical.byContradiction λh=>C ⟨h1,h⟩
       simp only[decide_eq_true h1,decide_eq_true h2,cond_true,bI,zZ,cond_false]
     · simp only[decide_eq_false h1,cond_false,bI]
   · obtain⟨S,b,e,D,k⟩:=uG z hM hn hr hs m u a d h1 h2 hd p (by omega)
     refine⟨S,b,?_,D,k⟩
     simp only[decide_eq_true h1,decide_eq_false h2,cond_true,bI,Bool.not_false,e]) g.1 (by omega) (Nat.le_refl _)
  have F:=c.cnt k1.nodup k1.out
  have H:=lG j
  have I:j.length=n:=c.1
  refine⟨S++[v],j,?_,⟨c.1,λx=>?_⟩,?_⟩
  · show cm (bW m) v T a d M=_
    unfold cm
    rw[idxB hdv o (by omega),bI,hy,bI,l,bI]
    have t:cntM (ck (bW m) T M row) row.length 0 (a,y)=_:=s
    rw[t,bI,bV]
    unfold kD
    dsimp only
    rw[app1 (by rw[z5];omega) rfl,bI,bI,List.append_assoc]
  · rw[c.2,g.2,Ad,z6]
    constructor
    · rintro((h | h) | h)
      · exact .inl h
      · exact .inr (.inr h)
      · exact .inr (.inl h)
    · rintro(h | h | h)
      · exact .inl (.inl h)
      · exact .inr h
      · exact .inl (.inr h)
  · rw[← hs v row hv l,g.eq]at k1
    have w:(λx=>In d x\/x∈[v])=λx=>In d x\/x=v:=funext λx=>propext (by rw[z6])
    rw[w]at k1
    exact Dfs.step hdv k1 .nil
end Go.Proofs.YtleekpaohfpooaaGreat
set_option linter.unusedVariables false
set_option linter.unusedSimpArgs false
namespace Go.Proofs.YtleekpaohfpooaaGreat
open Go Go.Wk Go.Proofs
open Classical
structure Gr (N:List (List Int)) (M:List Bool) (n:Nat):Prop where
 ln:N.length=n
 lm:M.length=n
 le:n<=256
 row:∀v r,idx N v=some r->r.length<=10000/\∀u∈r,0<=u/\u<n
noncomputable def scN (N:List (List Int)) (M:List Bool) (v:Int):List Int:=if In M v then((idx N v).getD []).filter (λu=>decide (In M u)) else[]
theorem dx {N:List (List Int)}{M:List Bool}{v u:Int}:u∈scN N M v↔In M v/\In M u/\∃r,idx N v=some r/\u∈r:=by
 unfold scN
 by_cases h:In M v
 · rw[if_pos h,List.mem_filter,decide_eq_true_eq]
   cases e:idx N v with
   | none=>simp
   | some r=>simp[h,and_comm]
 · rw[if_neg h];simp[h]
def rowI' (N:List (List Int)) (v:Int):List Int:=(idx N v).getD []
def Far (sc:Int->List Int) (v:Int):Prop:=∃y∈sc v,Wy sc noV y v
def Far2 (sc:Int->List Int) (v u:Int):Prop:=∃y∈sc v,Wy sc noV y u
section
variable {sc:Int->List Int}
theorem Wy.far {v u:Int}(w:Wy sc noV v u) (h:v≠u):Far2 sc v u:=by
 cases w with
 | one _=>exact absurd rfl h
 | cons _ e w=>exact⟨_,e,w⟩
theorem Far2.wy {v u:Int}(h:Far2 sc v u):Wy sc noV v u:=by
 obtain⟨y,h1,h2⟩:=h
 exact .cons id h1 h2
theorem Wy.snoc_in {D:Int->Prop}{v u:Int}(w:Wy sc D v u):v=u\/∃z,u∈sc z:=by
 induction w with
 | one _=>exact .inl rfl
 | cons _ e _ a=>
  rcases a with h | h
  · subst h;exact .inr ⟨_,e⟩
  · exact .inr h
theorem pd {v u:Int}(h:Akin sc v u) (a:v≠u):Far sc v/\Far sc u:=by
 obtain⟨y,h1,h2⟩:=h.1.far a
 obtain⟨z,b,c⟩:=h.2.far (Ne.symm a)
 exact⟨⟨y,h1,h2.trans h.2⟩,⟨z,b,c.trans h.1⟩⟩
theorem Far.akin {v u:Int}(h:Far sc v) (k:Akin sc v u):Far sc u:=by
 by_cases e:v=u
 · subst e;exact h
 · exact(pd k e).2
end
theorem nr (B:List Bool) (j:Nat):Asc (fu B j):=by
 unfold fu
 rw[Asc,List.pairwise_map]
 refine List.Pairwise.filter _ ?_
 exact List.pairwise_lt_range.imp λh=>by
  show(_:Int)<_
  exact Int.ofNat_lt.2 h
noncomputable def partG (N:List (List Int)) (M:List Bool) (v:Int):List Int:=(fu M M.length).filter (λu=>decide (Akin (scN N M) v u))
def Lead (sc:Int->List Int) (v:Int):Prop:=Far sc v/\∀w,w<v->¬Akin sc w v
noncomputable def loopsN (N:List (List Int)) (M:List Bool):List (List Int):=((fu M M.length).filter (λv=>decide (Lead (scN N M) v))).map (partG N M)
section
variable {N:List (List Int)}{M:List Bool}
theorem eR {v u:Int}:u∈partG N M v↔In M u/\Akin (scN N M) v u:=by
 unfold partG
 rw[List.mem_filter,dO,decide_eq_true_eq]
theorem kY (v:Int):Asc (partG N M v):=(nr _ _).filter _
theorem tb {v u:Int}(h:Akin (scN N M) v u):partG N M v=partG N M u:=
 nj (kY _) (kY _) λz=>by
  rw[eR,eR]
  exact⟨λ⟨a,b⟩=>⟨a,h.symm.trans b⟩,λ⟨a,b⟩=>⟨a,h.trans b⟩⟩
theorem mb {v:Int}(h:Far (scN N M) v):In M v:=by
 obtain⟨y,h1,_⟩:=h
 exact(dx.1 h1).1
def hdI (l:List Int):Int:=l.headD 0
theorem pR {v:Int}(h:Far (scN N M) v):∃t,partG N M v=hdI (partG N M v)::t/\Akin (scN N M) v (hdI (partG N M v))/\Lead (scN N M) (hdI (partG N M v)):=by
 have f:v∈partG N M v:=eR.2 ⟨mb h,Akin.refl v⟩
 cases e:partG N M v with
 | nil=>rw[e]at f;cases f
 | cons x t=>
  have hx:x∈partG N M v:=by rw[e];simp
  obtain⟨a,b⟩:=eR.1 hx
  refine⟨t,rfl,b,h.akin b,λw d hk=>?_⟩
  have i:Akin (scN N M) v w:=b.trans hk.symm
  have g:w∈partG N M v:=eR.2 ⟨mb (h.akin i),i⟩
  rw[e]at g
  have hp:Asc (x::t):=by rw[← e];exact kY v
  rcases List.mem_cons.1 g with c | c
  · have:w<w:=by rw[← c]at d;exact d
    omega
  · have:=(List.pairwise_cons.1 hp).1 w c
    have:w<x:=d
    omega
theorem xS {v:Int}(h:Lead (scN N M) v):hdI (partG N M v)=v:=by
 obtain⟨t,h1,h2,e⟩:=pR h.1
 have a:=h.2 (hdI (partG N M v))
 have b:=e.2 v
 have c:¬hdI (partG N M v)<v:=λk=>a k h2.symm
 have d:¬v<hdI (partG N M v):=λk=>b k h2
 omega
theorem xT {a b:Int}{s t:List Int}(h:leI (a::s) (b::t)=true) (c:a≠b):a<b:=by
 unfold leI lexI at h
 have:¬Go.Lib.compareInt a b=0:=λe=>c (cmpI_eq.1 e)
 rw[if_neg this,decide_eq_true_eq]at h
 exact cmpI_lt.1 (by omega)
theorem uF {P:List (List Int)}(h1:∀S∈P,∃v,Far (scN N M) v/\S=partG N M v) (h2:∀v,Far (scN N M) v->partG N M v∈P) (p:P.Pairwise (λS T=>∀x∈S,x∉T)):P.mergeSort leI=loopsN N M:=by
 have j:∀S∈P,S=partG N M (hdI S)/\Lead (scN N M) (hdI S)/\∃t,S=hdI S::t:=λS d=>by
  obtain⟨v,o,e⟩:=h1 S d
  obtain⟨t,k1,m,n⟩:=pR o
  rw[← e]at k1 m n
  exact⟨e.trans (tb m),n,t,k1⟩
 have k:=List.mergeSort_perm P leI
 have f:∀S∈P.mergeSort leI,S=partG N M (hdI S)/\Lead (scN N M) (hdI S)/\∃t,S=hdI S::t:=λS d=>j S (k.mem_iff.1 d)
 have u:(P.map hdI).Nodup:=by
  rw[List.Nodup,List.pairwise_map]
  refine p.imp_of_mem λ{S T} d i hd e=>?_
  obtain⟨_,_,s,g⟩:=j S d
  obtain⟨_,_,t,et⟩:=j T i
  refine hd (hdI S) (by rw[g];simp[hdI]) ?_
  rw[et,← e];simp[hdI]
 have l:((P.mergeSort leI).map hdI).Nodup:=((k.map hdI).nodup_iff).2 u
 have w:(P.mergeSort leI).Pairwise (λa b=>leI a b=true):=List.pairwise_mergeSort (λa b c=>leI_trans a b c) (λa b=>leI_total a b) P
 have q:Asc ((P.mergeSort leI).map hdI):=by
  rw[Asc,List.pairwise_map]
  rw[List.Nodup,List.pairwise_map]at l
  refine(List.Pairwise.and w l).imp_of_mem λ{S T} d i ⟨a,b⟩=>?_
  obtain⟨_,_,s,g⟩:=f S d
  obtain⟨_,_,t,et⟩:=f T i
  rw[g,et]at a
  exact xT a b
 have r:(P.mergeSort leI)=((P.mergeSort leI).map hdI).map (partG N M):=by
  rw[List.map_map]
  conv=>lhs;rw[← List.map_id (P.mergeSort leI)]
  exact List.map_congr_left λS d=>(f S d).1
 rw[r]
 unfold loopsN
 congr 1
 refine nj q ((nr _ _).filter _) λz=>?_
 rw[List.mem_map,List.mem_filter,dO,decide_eq_true_eq]
 constructor
 · rintro⟨S,d,rfl⟩
   exact⟨mb (f S d).2.1.1,(f S d).2.1⟩
 · rintro⟨_,hl⟩
   exact⟨partG N M z,k.mem_iff.2 (h2 z hl.1),xS hl⟩
end
end Go.Proofs.YtleekpaohfpooaaGreat
set_option linter.unusedVariables false
set_option linter.unusedSimpArgs false
namespace Go.Proofs.YtleekpaohfpooaaGreat
open Go Go.Wk Go.Proofs
open Classical
section
variable {N:List (List Int)}{M:List Bool}{n:Nat}(g:Gr N M n)
include g
theorem xE:∃B,cntM (eJ N M) N.length 0 (bO n [])=some (.inr B)/\B.length=n/\∀u:Int,0<=u->u<n->∃r,idx B u=some r/\∀v,v∈r↔u∈scN N M v:=by
 have hn:=g.le
 obtain⟨B,h1,h2,a⟩:=cv (f:=eJ N M) (λj (B:List (List Int))=>B.length=n/\∀u:Int,0<=u->u<n->∃r,idx B u=some r/\r.length<=j * 10000/\∀v,v∈r↔v<(j:Int)/\u∈scN N M v) N.length (s:=bO n []) ⟨by simp,λu b d=>⟨[],by rw[cz b,hV,if_pos (by omega)],by simp,λv=>by
  constructor
  · intro h;cases h
  · rintro⟨h,k⟩
    have:=(eM g.lm (dx.1 k).1).1
    omega⟩⟩ (λj B hj ⟨D,E⟩=>by
  have l:N[j]? =some N[j]:=bJ hj
  generalize N[j]=row at l
  obtain⟨O,J⟩:=g.row (j:Int) row (by rw[bS];exact l)
  unfold eJ
  rw[bS,l,bI]
  have L:j<n:=by rw[← g.ln];exact hj
  obtain⟨C,k1,H,I⟩:=cv (f:=iq M (j:Int) row) (λi (B:List (List Int))=>B.length=n/\∀u:Int,0<=u->u<n->∃r,idx B u=some r/\r.length<=j * 10000+i/\∀v,v∈r↔(v<(j:Int)/\u∈scN N M v)\/(v=(j:Int)/\In M v/\In M u/\u∈row.take i)) row.length (s:=B) ⟨D,λu b d=>by
   obtain⟨r,c1,c2,c⟩:=E u b d
   exact⟨r,c1,Nat.le_trans c2 (Nat.le_add_right _ _),λv=>by rw[c];simp⟩⟩ (λi B F ⟨x,o⟩=>by
   have m:row[i]? =some row[i]:=bJ F
   generalize row[i]=b at m
   obtain⟨t,K⟩:=J b (bQ m)
   have p:row.take (i+1)=row.take i++[b]:=by rw[Ae,m];rfl
   have A:¬(In M (j:Int)/\In M b)->∀u:Int,0<=u->u<n->∃r,idx B u=some r/\r.length<=j * 10000+(i+1)/\∀v,v∈r↔(v<(j:Int)/\u∈scN N M v)\/(v=(j:Int)/\In M v/\In M u/\u∈row.take (i+1)):=λG u q w=>by
    obtain⟨r,c1,c2,c⟩:=o u q w
    refine⟨r,c1,by omega,λv=>?_⟩
    rw[c,p]
    constructor
    · rintro(h | ⟨h,h1,h2,a⟩)
      · exact .inl h
      · exact .inr ⟨h,h1,h2,List.mem_append_left _ a⟩
    · rintro(h | ⟨h,h1,h2,a⟩)
      · exact .inl h
      · rcases Ad.1 a with a | a
        · exact .inr ⟨h,h1,h2,a⟩
        · rw[z6]at a
          exact absurd ⟨h ▸ h1,a ▸ h2⟩ G
   unfold iq
   rw[bS,m,bI,dz (B:=M) (by omega) (by rw[g.lm];omega),bI,dz (B:=M) t (by rw[g.lm];omega)]
   by_cases h1:In M (j:Int)
   · by_cases h2:In M b
     · obtain⟨r,c1,c2,c⟩:=o b t K
       obtain⟨B',z,hl⟩:=dy (xs:=B) (i:=b) (r++[(j:Int)]) t (by omega)
       simp only[decide_eq_true h1,decide_eq_true h2,cond_true,bI,c1,app1 (show r.length<=10000000000 by omega) (show Nat.ble 8 1024=true from rfl),z]
       refine⟨_,rfl,by omega,λu q w=>?_⟩
       rw[dq z]
       by_cases e:u=b
       · subst e
         rw[if_pos rfl]
         refine⟨_,rfl,by rw[z5];simp only[z8,Aa];omega,λv=>?_⟩
         rw[Ad,c,z6,p]
         constructor
         · rintro((h | ⟨h,h1,h2,a⟩) | h)
           · exact .inl h
           · exact .inr ⟨h,h1,h2,List.mem_append_left _ a⟩
           · subst h;exact .inr ⟨rfl,h1,h2,by simp⟩
         · rintro(h | ⟨h,h1,h2,a⟩)
           · exact .inl (.inl h)
           · exact .inr h
       · rw[if_neg e]
         obtain⟨r,c1,c2,c⟩:=o u q w
         refine⟨r,c1,by omega,λv=>?_⟩
         rw[c,p,Ad,z6]
         simp[e]
     · simp only[decide_eq_true h1,decide_eq_false h2,cond_true,bI,cond_false]
       exact⟨_,rfl,x,A λh=>h2 h.2⟩
   · simp only[decide_eq_false h1,bI,cond_false]
     exact⟨_,rfl,x,A λh=>h1 h.1⟩)
  rw[k1,bI,bV]
  refine⟨_,rfl,H,λu b d=>?_⟩
  obtain⟨r,c1,c2,c⟩:=I u b d
  refine⟨r,c1,by omega,λv=>?_⟩
  rw[c,List.take_length]
  constructor
  · rintro(⟨h,k⟩ | ⟨h,h1,h2,a⟩)
    · exact⟨by omega,k⟩
    · subst h
      exact⟨by omega,dx.2 ⟨h1,h2,row,by rw[bS];exact l,a⟩⟩
  · rintro⟨h,k⟩
    by_cases e:v=(j:Int)
    · subst e
      obtain⟨h1,h2,r',y,a⟩:=dx.1 k
      rw[bS,l]at y
      cases y
      exact .inr ⟨rfl,h1,h2,a⟩
    · exact .inl ⟨by omega,k⟩)
 refine⟨B,h1,h2,λu b d=>?_⟩
 obtain⟨r,c1,c2,c⟩:=a u b d
 refine⟨r,c1,λv=>?_⟩
 rw[c]
 refine⟨λh=>h.2,λh=>⟨?_,h⟩⟩
 have:=(eM g.lm (dx.1 h).1).2
 rw[g.ln];exact this
def Many (N:List (List Int)) (S:List Int):Prop:=1<S.length\/∃v∈S,∃r,idx N v=some r/\v∈r
noncomputable def keepP (N:List (List Int)) (P:List (List Int)):List (List Int):=(P.filter (λS=>decide (Many N S))).map λS=>S.mergeSort λx y=>decide (x<=y)
theorem mT {B:List (List Int)}{bk:Int->List Int}(hB:B.length=n) (o:∀v row,idx B v=some row->∀u∈row,0<=u/\u<n) (m:∀v row,In M v->idx B v=some row->bk v=row.filter (λu=>decide (In M u)))
 {L:List Int} {d0:List Bool} (hL:L.length<=256) (l:∀v∈L,In M v):
 ∀(k:Nat) (P0:List (List Int)) (d:List Bool) (F:Nat),k<=L.length->P0.length+k<=1000->d.length=n->k<F ->
 ∃P a,bU (df N M B (L,d0)) F (P0,(k:Int)-1,d)=some (.inr (P0++keepP N P,-1,a))/\Kos bk (In d) ((L.take k).reverse) P
 | _,_,_,0,_,_,_,h=>absurd h (Nat.not_lt_zero _)
 | 0,P0,d,F+1,_,_,hd,_=>⟨[],d,by
  show bH (df N M B (L,d0) (P0,((0:Nat):Int)-1,d)) _=_
  have:keepP N []=[]:=rfl
  rw[this,List.append_nil]
  rfl,.nil⟩
 | k+1,P0,d,F+1,hk,hP,hd,hF=>by
  have hn:=g.le
  have hx:L[k]? =some L[k]:=bJ (by omega)
  generalize L[k]=x at hx
  have J:=l x (bQ hx)
  obtain⟨D,Z⟩:=eM g.lm J
  have U:(L.take (k+1)).reverse=x::(L.take k).reverse:=by rw[Ae,hx];simp
  have K:((k+1:Nat):Int)-1=(k:Int):=by omega
  have E:IntKind.i64.wrap ((k:Int)-1)=(k:Int)-1:=wr' (by omega) (by omega)
  rw[U,K]
  show ∃P a,bH (df N M B (L,d0) (P0,(k:Int),d)) _=_/\_
  by_cases b:In d x
  · obtain⟨P,a,w,f⟩:=mT hB o m hL l k P0 d F (by omega) (by omega) hd (by omega)
    have st:df N M B (L,d0) (P0,(k:Int),d)=some (.inr (.inr (P0,(k:Int)-1,d))):=by
     unfold df
     dsimp only
     rw[decide_eq_true (show(0:Int)<=(k:Int) by omega),cond_true,bS,hx,bI,dz (B:=d) D (by omega),bI,E,decide_eq_true b,cond_true]
    rw[st,bI]
    exact⟨P,a,w,.skip b f⟩
  · obtain⟨S,j,Y,A,k1⟩:=uG hB g.lm hn o m (2 ^ 64) x [] d J b hd (Nat.zero_le _) (by have:=lG d;omega)
    have c:x∈S:=(k1.mem_iff x).2 ⟨x,by simp,.one b⟩
    have G:0<S.length:=List.length_pos_of_mem c
    have ae:=A.cnt k1.nodup k1.out
    have ad:=lG j
    have H:=A.1
    obtain⟨X,C⟩:=cF (xs:=N) (i:=x) D (by rw[g.ln];exact Z)
    have O:(bH (bif decide (1<(S.length:Int)) then some true else bH (idx N x) λaa=>bH (cc aa x) λab=>some ab) λp=>if p=decide (Many N S) then some () else none)=some ():=by
     by_cases h1:1<S.length
     · rw[decide_eq_true (show(1:Int)<(S.length:Int) by omega),cond_true,bI,if_pos]
       exact(decide_eq_true (.inl h1)).symm
     · rw[decide_eq_false (show ¬(1:Int)<(S.length:Int) by omega),cond_false,C,bI,cL,bI,bI,if_pos]
       rw[Bool.eq_iff_iff,List.any_eq_true,decide_eq_true_eq]
       constructor
       · rintro⟨y,hy,e⟩
         have:x=y:=by simpa using e
         exact .inr ⟨x,c,X,C,this ▸ hy⟩
       · rintro(h | ⟨v,s,r,hr,V⟩)
         · exact absurd h h1
         · have W:v=x:=by
            match S,G,h1,c,s with
            | [y],_,_,c,s=>
             rw[z6]at c s
             rw[c,s]
            | y::z::t,_,h1,_,_=>simp at h1
           subst W
           rw[C]at hr
           cases hr
           exact⟨v,V,by simp⟩
    obtain⟨p,R,I⟩:=Option.bind_eq_some_iff.1 O
    have hp:p=decide (Many N S):=Classical.byContradiction λQ=>by rw[if_neg Q]at I;cases I
    have T:cJ S=some (S.mergeSort λx y=>decide (x<=y)):=by
     unfold cJ
     rw[if_pos ⟨G,by omega⟩]
    have st:df N M B (L,d0) (P0,(k:Int),d)=bH (bif decide (Many N S) then bH (appS 24 P0 [S.mergeSort λx y=>decide (x<=y)]) λac=>some ac else some P0) λq=>some (.inr (.inr (q,(k:Int)-1,j))):=by
     unfold df
     dsimp only
     rw[decide_eq_true (show(0:Int)<=(k:Int) by omega),cond_true,bS,hx,bI,dz (B:=d) D (by omega),bI,E,decide_eq_false b,cond_false,tJ,Y,bI]
     dsimp only
     rw[List.nil_append,T,bI,R,bI,hp]
    by_cases hm:Many N S
    · have ha:appS 24 P0 [S.mergeSort λx y=>decide (x<=y)]=some (P0++[S.mergeSort λx y=>decide (x<=y)]):=app1 (by omega) rfl
      obtain⟨P,a,w,f⟩:=mT hB o m hL l k (P0++[S.mergeSort λx y=>decide (x<=y)]) j F (by omega) (by simp only[z5,z8,Aa];omega) H (by omega)
      rw[st,decide_eq_true hm,cond_true,ha,bI,bI,bI]
      refine⟨S::P,a,?_,?_⟩
      · have:keepP N (S::P)=(S.mergeSort λx y=>decide (x<=y))::keepP N P:=by
         unfold keepP
         rw[List.filter_cons,if_pos (decide_eq_true hm)];rfl
        rw[this]
        rw[List.append_assoc]at w
        exact w
      · refine .step b k1 ?_
        rw[← A.eq];exact f
    · obtain⟨P,a,w,f⟩:=mT hB o m hL l k P0 j F (by omega) (by omega) H (by omega)
      rw[st,decide_eq_false hm,cond_false,bI,bI]
      refine⟨S::P,a,?_,?_⟩
      · have:keepP N (S::P)=keepP N P:=by
         unfold keepP
         rw[List.filter_cons,if_neg (by simpa using hm)]
        rw[this];exact w
      · refine .step b k1 ?_
        rw[← A.eq];exact f
theorem xL:kV N M=some (loopsN N M):=by
 have hn:=g.le
 obtain⟨B,aj,al,R⟩:=xE g
 have Z:∀v u,u∈rowI' B v↔v∈scN N M u:=λv u=>by
  unfold rowI'
  constructor
  · intro h
    cases e:idx B v with
    | none=>rw[e]at h;cases h
    | some r=>
     rw[e]at h
     obtain⟨A,Q⟩:=cX e
     obtain⟨r',c1,c2⟩:=R v A (by omega)
     rw[e]at c1;cases c1
     exact(c2 u).1 h
  · intro h
    obtain⟨A,Q⟩:=eM g.lm (dx.1 h).2.1
    obtain⟨r',c1,c2⟩:=R v A Q
    rw[c1];exact(c2 u).2 h
 have Y:∀v u,u∈rowI' B v->In M v/\In M u:=λv u h=>by
  obtain⟨a,b,_⟩:=dx.1 ((Z v u).1 h)
  exact⟨b,a⟩
 have I:∀v row,idx B v=some row->rowI' B v=row:=λv row e=>by unfold rowI';rw[e];rfl
 have ar:∀v row,idx B v=some row->rowI' B v=row.filter (λu=>decide (In M u)):=λv row e=>by
  rw[I v row e]
  symm
  rw[List.filter_eq_self]
  intro u m
  rw[← I v row e]at m
  exact decide_eq_true (Y v u m).2
 have aq:∀v row,idx B v=some row->∀u∈row,0<=u/\u<n:=λv row e u m=>by
  rw[← I v row e]at m
  exact eM g.lm (Y v u m).2
 have hs:∀v row,In M v->idx N v=some row->scN N M v=row.filter (λu=>decide (In M u)):=λv row h e=>by
  unfold scN
  rw[if_pos h,e];rfl
 have h0:∀x,¬In (bO n false) x:=λx hx=>by
  obtain⟨aD,aG⟩:=eM (n:=n) (by simp) hx
  unfold In at hx
  rw[cz aD,hV,if_pos (by omega)]at hx
  cases hx
 have p:In (bO n false)=noV:=funext λx=>propext ⟨λh=>h0 x h,λh=>h.elim⟩
 have ae:((List.range n).map Int.ofNat).length=n:=by simp
 obtain⟨L,F,V,ai,k1⟩:=nG (f:=fY N M) (sc:=scN N M) (M:=M) (n:=n) (c0:=0) ((List.range n).map Int.ofNat) 0 [] (bO n false) (λi u ay d m hd au _=>by
  have G:i<n:=by have:=(bK.1 m).1;rwa [ae]at this
  have aw:u=(i:Int):=by
   rw[List.getElem?_map,List.getElem?_range G]at m
   exact(Option.some.inj m).symm
  subst aw
  rw[Nat.zero_add]
  unfold fY
  dsimp only
  rw[dz (B:=M) (by omega) (by rw[g.lm];omega),bI,dz (B:=d) (by omega) (by omega)]
  refine⟨λp=>?_,λh1 h2=>?_⟩
  · by_cases h1:In M (i:Int)
    · have h2:In d (i:Int):=Classical.byContradiction λh=>p ⟨h1,h⟩
      simp only[decide_eq_true h1,decide_eq_true h2,cond_true,bI,zZ,cond_false]
    · simp only[decide_eq_false h1,cond_false,bI]
  · obtain⟨S,U,e,ax,k⟩:=uG g.ln g.lm hn (λv row e=>(g.row v row e).2) hs (2 ^ 64) (i:Int) ay d h1 h2 hd au (by have:=lG d;omega)
    refine⟨S,U,?_,ax,k⟩
    simp only[decide_eq_true h1,decide_eq_false h2,cond_true,bI,Bool.not_false,e]) (by simp) (Nat.zero_le _) (Nat.zero_le _)
 rw[ae]at V
 rw[p]at k1
 have X:∀v,v∈L->In M v:=λv j=>by
  obtain⟨u,m,w⟩:=(k1.mem_iff v).1 j
  have av:In M u:=by simpa using (List.mem_filter.1 m).2
  cases w.snoc_in with
  | inl h=>exact h ▸ av
  | inr h=>obtain⟨z,O⟩:=h;exact(dx.1 O).2.1
 have W:∀v,In M v->v∈L:=λv j=>(k1.mem_iff v).2 ⟨v,List.mem_filter.2 ⟨by
  obtain⟨A,Q⟩:=eM g.lm j
  obtain⟨i,G⟩:=cY A
  subst G
  exact List.mem_map.2 ⟨i,List.mem_range.2 (by omega),rfl⟩,by simpa using j⟩,.one id⟩
 have ao:L.length<=256:=by
  have:=ai.cnt k1.nodup (λx _=>h0 x)
  have:=lG F
  have:=ai.1
  omega
 obtain⟨P,U,w,ah⟩:=mT g (d0:=F) al aq (λv row _ e=>ar v row e) ao X L.length [] (bO n false) (2 ^ 64) (Nat.le_refl _) (by simp only[Aa];omega) (by simp) (by omega)
 rw[List.take_length,p]at ah
 obtain⟨E,az,aA,aF⟩:=vH Z k1 (λa b hb=>W a (dx.1 hb).1) noV L.reverse P ah [] (by simp) (λx=>⟨λh=>h.elim,λ⟨q,h,_⟩=>by cases h⟩)
 have C:∀S∈P,∀v∈S,(∀x,x∈S↔Akin (scN N M) v x)/\In M v:=λS c v j=>by
  obtain⟨_,aB,h1,_,h2⟩:=E S c
  have K:=(h2 v).1 j
  refine⟨λx=>by rw[h2];exact⟨λh=>K.symm.trans h,λh=>K.trans h⟩,?_⟩
  by_cases e:aB=v
  · subst e;exact X _ (List.mem_reverse.1 h1)
  · exact mb (pd K e).2
 have ab:∀S∈P,∀v∈S,(S.mergeSort λx y=>decide (x<=y))=partG N M v:=λS c v j=>by
  obtain⟨H,_⟩:=E S c
  obtain⟨h1,h2⟩:=C S c v j
  refine nj (tI H) (kY _) λz=>?_
  rw[(List.mergeSort_perm S _).mem_iff,eR]
  exact⟨λh=>⟨(C S c z h).2,(h1 z).1 h⟩,λh=>(h1 z).2 h.2⟩
 have aa:∀S∈P,∀v∈S,Many N S↔Far (scN N M) v:=λS c v j=>by
  obtain⟨h1,h2⟩:=C S c v j
  obtain⟨H,_⟩:=E S c
  constructor
  · rintro(h | ⟨u,m,r,hr,J⟩)
    · have:∃z∈S,z≠v:=Classical.byContradiction λp=>by
       have:S.length<=[v].length:=ot H λx hx=>z6.2 (Classical.byContradiction λo=>p ⟨x,hx,o⟩)
       simp only[z8,Aa]at this
       omega
      obtain⟨z,O,o⟩:=this
      exact(pd ((h1 z).1 O) (Ne.symm o)).1
    · have ad:=(C S c u m).2
      have:Far (scN N M) u:=⟨u,dx.2 ⟨ad,ad,r,hr,J⟩,.one id⟩
      exact this.akin ((h1 u).1 m).symm
  · rintro⟨y,hy,aC⟩
    by_cases h:1<S.length
    · exact .inl h
    · have D:y∈S:=(h1 y).2 ⟨.cons id hy (.one id),aC⟩
      have:y=v:=by
       match S,h,j,D with
       | [a],_,j,D=>rw[z6]at j D;rw[j,D]
       | a::b::t,h,_,_=>simp at h
      subst this
      obtain⟨_,_,r,hr,J⟩:=dx.1 hy
      exact .inr ⟨y,j,r,hr,J⟩
 have o:∀S∈P,∃v,v∈S:=λS c=>by
  obtain⟨_,v,_,_,h⟩:=E S c
  exact⟨v,(h v).2 (Akin.refl v)⟩
 have ac:(keepP N P).mergeSort leI=loopsN N M:=by
  refine uF (λT s=>?_) (λv j=>?_) ?_
  · unfold keepP at s
    obtain⟨S,c,rfl⟩:=List.mem_map.1 s
    obtain⟨c,hm⟩:=List.mem_filter.1 c
    obtain⟨v,j⟩:=o S c
    exact⟨v,(aa S c v j).1 (of_decide_eq_true hm),ab S c v j⟩
  · rcases az v (List.mem_reverse.2 (W v (mb j))) with h | ⟨S,c,af⟩
    · exact h.elim
    · unfold keepP
      exact List.mem_map.2 ⟨S,List.mem_filter.2 ⟨c,decide_eq_true ((aa S c v af).2 j)⟩,ab S c v af⟩
  · unfold keepP
    rw[List.pairwise_map]
    refine(aA.filter _).imp λ{S T} h x hx ag=>?_
    rw[(List.mergeSort_perm _ _).mem_iff]at hx ag
    exact h x hx ag
 have aE:(keepP N P).length<=1000:=by
  have h1:(loopsN N M).length<=n:=by
   unfold loopsN
   rw[Ah]
   exact Nat.le_trans (List.length_filter_le _ _) (Nat.le_trans (lM _ _) (by rw[g.lm];exact Nat.le_refl _))
  rw[← ac,List.length_mergeSort]at h1
  omega
 have ap:((keepP N P).all λl=> !l.isEmpty)=true:=by
  rw[List.all_eq_true]
  intro T s
  unfold keepP at s
  obtain⟨S,c,rfl⟩:=List.mem_map.1 s
  obtain⟨v,j⟩:=o S (List.mem_filter.1 c).1
  have:=(List.mergeSort_perm S λx y=>decide (x<=y)).mem_iff.2 j
  cases e:(S.mergeSort λx y=>decide (x<=y)) with
  | nil=>rw[e]at this;cases this
  | cons _ _=>rfl
 have an:IntKind.i64.wrap ((L.length:Int)-1)=(L.length:Int)-1:=wr' (by omega) (by omega)
 have am:cntM (fY N M) n 0 (([]:List Int),bO n false)=some (.inr (L,F)):=by
  rw[← List.nil_append L];exact V
 have ak:cntM (eJ N M) n 0 (bO n [])=some (.inr B):=by rw[← aj,g.ln]
 unfold kV
 rw[g.ln,dD (by omega) rfl,bI,ak,bI,bV,dD (by omega) rfl,bI,am,bI,bV,bI]
 dsimp only
 rw[an,w,bI,bV]
 dsimp only
 rw[List.nil_append]
 unfold d8
 rw[if_pos ⟨by omega,ap⟩,bI,ac]
end
end Go.Proofs.YtleekpaohfpooaaGreat
set_option linter.unusedVariables false
set_option linter.unusedSimpArgs false
namespace Go.Proofs.YtleekpaohfpooaaGreat
open Go Go.Wk Go.Proofs
open Classical
def Lv (sc:Int->List Int) (s:Int):Nat->Int->Prop
 | 0,k=>k=s
 | t+1,k=>∃u∈sc k,Lv sc s t u
def Dm (sc:Int->List Int) (s k:Int) (d:Nat):Prop:=Lv sc s d k/\∀e,e<d->¬Lv sc s e k
section
variable {sc:Int->List Int}{s k:Int}
theorem Dm.uniq {d e:Nat}(h:Dm sc s k d) (c:Dm sc s k e):d=e:=by
 have a:=h.2 e
 have b:=c.2 d
 have:¬e<d:=λx=>a x c.1
 have:¬d<e:=λx=>b x h.1
 omega
theorem Lv.min {d:Nat}:Lv sc s d k->∃e,e<=d/\Dm sc s k e:=by
 induction d using Nat.strongRecOn with
 | ind d ih=>
  intro h
  by_cases hm:∃e,e<d/\Lv sc s e k
  · obtain⟨e,b,a⟩:=hm
    obtain⟨c,hf,hd⟩:=ih e b a
    exact⟨c,by omega,hd⟩
  · exact⟨d,Nat.le_refl _,h,λe b a=>hm ⟨e,b,a⟩⟩
theorem Dm.next {d:Nat}(h:Dm sc s k (d+1)):∃u∈sc k,Dm sc s u d:=by
 obtain⟨u,h1,h2⟩:=h.1
 exact⟨u,h1,h2,λe b a=>h.2 (e+1) (by omega) ⟨u,h1,a⟩⟩
theorem Lv.wy:∀{d:Nat}{k:Int},Lv sc s d k->Wy sc noV k s
 | 0,k,h=>by
  have h:k=s:=h
  subst h;exact .one id
 | d+1,k,⟨u,h1,h2⟩=> .cons id h1 (Lv.wy h2)
theorem Wy.lv {k:Int}(w:Wy sc noV k s):∃d,Lv sc s d k:=by
 induction w with
 | one _=>exact⟨0,rfl⟩
 | cons _ e _ a=>
  obtain⟨d,h⟩:=a
  exact⟨d+1,_,e,h⟩
theorem Dm.list {n:Nat}(hr:∀a b,b∈sc a->0<=b/\b<(n:Int)):∀{d:Nat}{k:Int},0<=k->k<n->Dm sc s k d->∃l:List Int,l.length=d+1/\l.Nodup/\(∀x∈l,0<=x/\x<(n:Int))/\∀x∈l,∃e,e<=d/\Dm sc s x e
 | 0,k,k0,k1,h=>⟨[k],rfl,by simp,λx hx=>by rw[z6]at hx;subst hx;exact⟨k0,k1⟩,λx hx=>by rw[z6]at hx;subst hx;exact⟨0,Nat.le_refl _,h⟩⟩
 | d+1,k,k0,k1,h=>by
  obtain⟨u,h1,h2⟩:=h.next
  obtain⟨m,o⟩:=hr k u h1
  obtain⟨l,g,i,j,c⟩:=Dm.list hr m o h2
  refine⟨k::l,by simp[g],List.nodup_cons.2 ⟨λhm=>?_,i⟩,λx hx=>?_,λx hx=>?_⟩
  · obtain⟨e,f,hd⟩:=c k hm
    have:=hd.uniq h
    omega
  · rcases List.mem_cons.1 hx with e | hx
    · subst e;exact⟨k0,k1⟩
    · exact j x hx
  · rcases List.mem_cons.1 hx with e | hx
    · subst e;exact⟨d+1,Nat.le_refl _,h⟩
    · obtain⟨e,f,hd⟩:=c x hx
      exact⟨e,by omega,hd⟩
end
def At (sc:Int->List Int) (s:Int) (t:Nat) (k x:Int):Prop:=(x= -1/\∀d,d<=t->¬Lv sc s d k)\/∃d:Nat,x=(d:Int)/\d<=t/\Dm sc s k d
theorem At.neg {sc:Int->List Int}{s k x:Int}{t:Nat}(h:At sc s t k x):(x<0↔∀d,d<=t->¬Lv sc s d k):=by
 rcases h with ⟨h1,h2⟩ | ⟨d,h1,h2,a⟩
 · exact⟨λ_=>h2,λ_=>by omega⟩
 · exact⟨λh=>by omega,λh=>absurd a.1 (h d h2)⟩
theorem At.is {sc:Int->List Int}{s k x:Int}{t t':Nat}(ht:t<=t') (h:At sc s t' k x):(x=(t:Int)↔Dm sc s k t):=by
 rcases h with ⟨h1,h2⟩ | ⟨d,h1,h2,a⟩
 · exact⟨λh=>by omega,λh=>absurd h.1 (h2 t ht)⟩
 · exact⟨λh=>(show d=t by omega) ▸ a,λh=>by have:=a.uniq h;omega⟩
section
variable {N:List (List Int)}{M:List Bool}{n:Nat}(g:Gr N M n)
include g
theorem zR {s:Int}(hs:In M s):∃F,lr N M s=some F/\F.length=n/\∀k:Int,0<=k->k<n->∃x,idx F k=some x/\((x= -1/\∀d,¬Lv (scN N M) s d k)\/∃d:Nat,x=(d:Int)/\d<n/\Dm (scN N M) s k d):=by
 have hn:=g.le
 have hl:=g.ln
 have hm:=g.lm
 obtain⟨aj,aK⟩:=eM g.lm hs
 obtain⟨F0,am,ac⟩:=cv (f:=jB) (λj (F:List Int)=>F=bO j (-1)) N.length (s:=[]) rfl (λj F hj au=>by
  subst au
  unfold jB
  rw[app1 (by rw[List.length_replicate];omega) rfl,bI]
  exact⟨_,rfl,by rw[List.replicate_succ']⟩)
 have aI:F0.length=n:=by rw[ac,List.length_replicate,hl]
 obtain⟨F1,ad,aH⟩:=dy (xs:=F0) (i:=s) (0:Int) aj (by omega)
 have h0:∀k:Int,0<=k->k<n->∃x,idx F1 k=some x/\At (scN N M) s 0 k x:=λk p k1=>by
  rw[dq ad]
  by_cases e:k=s
  · rw[if_pos e]
    exact⟨0,rfl,.inr ⟨0,rfl,Nat.le_refl _,e,λT h=>absurd h (Nat.not_lt_zero _)⟩⟩
  · rw[if_neg e,ac,cz p,hV,if_pos (by omega)]
    exact⟨-1,rfl,.inl ⟨rfl,λd hd h=>by
     have:d=0:=by omega
     subst this;exact e h⟩⟩
 have af:∀{d:Nat} {u:Int},Lv (scN N M) s d u->In M u:=λ{d u} h=>by
  cases d with
  | zero=>
   have h:u=s:=h
   rw[h];exact hs
  | succ d=>
   obtain⟨w,C,_⟩:=h
   exact(dx.1 C).1
 obtain⟨F2,an,ao,ap⟩:=cv (f:=jC N M) (λt (F:List Int)=>F.length=n/\∀k:Int,0<=k->k<n->∃x,idx F k=some x/\At (scN N M) s t k x) N.length (s:=F1) ⟨by omega,h0⟩ (λt F ht ⟨a1,a2⟩=>by
  obtain⟨G,c1,c2,al⟩:=cv (f:=jE N M (t:Int)) (λj (F:List Int)=>F.length=n/\∀k:Int,0<=k->k<n->∃x,idx F k=some x/\(if k<(j:Int) then At (scN N M) s (t+1) k x else At (scN N M) s t k x)) N.length (s:=F) ⟨a1,λk p k1=>by
   obtain⟨x,h1,h2⟩:=a2 k p k1
   exact⟨x,h1,by rw[if_neg (by omega)];exact h2⟩⟩ (λj F hj ⟨R,S⟩=>by
   have ah:N[j]? =some N[j]:=bJ hj
   generalize N[j]=row at ah
   have E:idx N (j:Int)=some row:=by rw[bS];exact ah
   obtain⟨ai,K⟩:=g.row (j:Int) row E
   have ay:∀u:Int,0<=u->u<n->∃x,idx F u=some x/\(x=(t:Int)↔Dm (scN N M) s u t):=λu Y Z=>by
    obtain⟨x,h1,h2⟩:=S u Y Z
    refine⟨x,h1,?_⟩
    by_cases e:u<(j:Int)
    · rw[if_pos e]at h2;exact h2.is (by omega)
    · rw[if_neg e]at h2;exact h2.is (Nat.le_refl _)
   obtain⟨x,hx,J⟩:=S (j:Int) (by omega) (by omega)
   rw[if_neg (Int.lt_irrefl _)]at J
   have ae:=dz (B:=M) (v:=(j:Int)) (by omega) (by omega)
   -- the end of the inner loop
   have ax:∃i G,bU (dH N M (t:Int) (j:Int)) (2 ^ 64) (0,F)=some (.inr (i,G))/\G.length=n/\(∀k:Int,k≠(j:Int)->idx G k=idx F k)/\∃y,idx G (j:Int)=some y/\At (scN N M) s (t+1) (j:Int) y:=by
    by_cases Q:x<0
    · have V:=J.neg.1 Q
      by_cases O:In M (j:Int)
      · obtain⟨o,w1,L⟩:=cC (f:=dH N M (t:Int) (j:Int)) (λi (q:Int×List Int)=>q.1=(i:Int)/\i<=row.length/\((q.2=F/\∀u∈row.take i,¬Dm (scN N M) s u t)\/(setI F (j:Int) ((t:Int)+1)=some q.2/\∃u∈row,Dm (scN N M) s u t))) (λ_=>False) (λq=>(q.2=F/\∀u∈row,¬Dm (scN N M) s u t)\/(setI F (j:Int) ((t:Int)+1)=some q.2/\∃u∈row,Dm (scN N M) s u t)) row.length (λi q ⟨ab,aG,m⟩=>by
         obtain⟨aJ,G⟩:=q
         dsimp only at ab m
         subst ab
         unfold dH
         dsimp only
         rw[E,bI]
         by_cases U:i<row.length
         · rw[decide_eq_true (show(i:Int)<(row.length:Int) by omega),cond_true]
           rcases m with ⟨m,I⟩ | ⟨m,I⟩
           · subst m
             have A:row[i]? =some row[i]:=bJ U
             generalize row[i]=u at A
             obtain⟨Y,Z⟩:=K u (bQ A)
             obtain⟨z,aa,D⟩:=ay u Y Z
             obtain⟨G',av,_⟩:=dy (xs:=G) (i:=(j:Int)) ((t:Int)+1) (by omega) (by omega)
             rw[hx,bI,decide_eq_true Q,bI,cond_true,ae,bI,decide_eq_true O,bI,cond_true,bI,bS,A,bI,aa,bI]
             have ak:IntKind.i64.wrap ((i:Int)+1)=((i+1:Nat):Int):=by rw[wr' (by omega) (by omega)];omega
             have aF:IntKind.i64.wrap ((t:Int)+1)=(t:Int)+1:=wr' (by omega) (by omega)
             by_cases H:z=(t:Int)
             · have W:(z==(t:Int))=true:=by rw[beq_iff_eq];exact H
               rw[W,cond_true,bI,aF,av,bI,bI,ak]
               exact⟨_,rfl,U,rfl,by omega,.inr ⟨rfl,u,bQ A,D.1 H⟩⟩
             · have W:(z==(t:Int))=false:=by rw[beq_eq_false_iff_ne];exact H
               rw[W,cond_false,bI,ak]
               refine⟨_,rfl,U,rfl,by omega,.inl ⟨rfl,λw C=>?_⟩⟩
               rw[Ae,A]at C
               rcases Ad.1 C with C | C
               · exact I w C
               · have:w=u:=by simpa using C
                 subst this
                 exact λh=>H (D.2 h)
           · have aw:idx G (j:Int)=some ((t:Int)+1):=by rw[dq m,if_pos rfl]
             rw[aw,bI,decide_eq_false (by omega),bI,cond_false,bI,cond_false]
             exact⟨_,rfl,.inr ⟨m,I⟩⟩
         · have:i=row.length:=by omega
           subst this
           rw[decide_eq_false (Int.lt_irrefl _),cond_false,bI,cond_false,bI,cond_false]
           rw[List.take_length]at m
           exact⟨_,rfl,m⟩) (2 ^ 64) 0 (0,F) (by omega) ⟨rfl,Nat.zero_le _,.inl ⟨rfl,λu A=>by simp at A⟩⟩ (by omega)
        match o,L with
        | .inr (i,G),L=>
         refine⟨i,G,w1,?_⟩
         rcases L with ⟨m,I⟩ | ⟨m,u,A,hd⟩
         · dsimp only at m
           subst m
           refine⟨R,λ_ _=>rfl,x,hx,.inl ⟨?_,λd hd h=>?_⟩⟩
           · rcases J with ⟨h1,_⟩ | ⟨d,h1,_⟩
             · exact h1
             · omega
           · by_cases e:d<=t
             · exact V d e h
             · have:d=t+1:=by omega
               subst this
               obtain⟨w,w1,L⟩:=h
               obtain⟨_,_,r,hr,az⟩:=dx.1 w1
               rw[E]at hr
               cases hr
               exact I w az ⟨L,λe P aq=>V (e+1) (by omega) ⟨w,w1,aq⟩⟩
         · dsimp only at m
           refine⟨by have:=(lU m).2.2.2;omega,λk hk=>by rw[dq m,if_neg hk],(t:Int)+1,by rw[dq m,if_pos rfl],.inr ⟨t+1,by omega,Nat.le_refl _,⟨u,dx.2 ⟨O,af hd.1,row,E,A⟩,hd.1⟩,λe P h=>V e (by omega) h⟩⟩
      · refine⟨0,F,?_,R,λ_ _=>rfl,x,hx,.inl ⟨?_,λd hd h=>?_⟩⟩
        · show bH (dH N M (t:Int) (j:Int) (0,F)) _=_
          unfold dH
          dsimp only
          rw[E,bI,hx,bI,decide_eq_true Q,ae,decide_eq_false O]
          cases decide ((0:Int)<(row.length:Int)) <;> rfl
        · rcases J with ⟨h1,_⟩ | ⟨d,h1,_⟩
          · exact h1
          · omega
        · exact O (af h)
    · refine⟨0,F,?_,R,λ_ _=>rfl,x,hx,?_⟩
      · show bH (dH N M (t:Int) (j:Int) (0,F)) _=_
        unfold dH
        dsimp only
        rw[E,bI,hx,bI,decide_eq_false Q]
        cases decide ((0:Int)<(row.length:Int)) <;> rfl
      · rcases J with ⟨h1,_⟩ | ⟨d,h1,h2,ar⟩
        · omega
        · exact .inr ⟨d,h1,by omega,ar⟩
   obtain⟨i,G,aA,aB,aC,y,aD,aE⟩:=ax
   unfold jE
   rw[aA,bI,bV]
   refine⟨_,rfl,aB,λk p k1=>?_⟩
   dsimp only
   by_cases e:k=(j:Int)
   · subst e
     exact⟨y,aD,by rw[if_pos (by omega)];exact aE⟩
   · rw[aC k e]
     obtain⟨z,aa,D⟩:=S k p k1
     refine⟨z,aa,?_⟩
     by_cases T:k<(j:Int)
     · rw[if_pos T]at D;rw[if_pos (by omega)];exact D
     · rw[if_neg T]at D;rw[if_neg (by omega)];exact D)
  unfold jC
  rw[c1,bI,bV]
  refine⟨_,rfl,c2,λk p k1=>?_⟩
  obtain⟨x,h1,h2⟩:=al k p k1
  rw[if_pos (by omega)]at h2
  exact⟨x,h1,h2⟩)
 unfold lr
 rw[am,bI,bV]
 obtain⟨z,H⟩:=cF (xs:=F0) (i:=s) aj (by omega)
 rw[H,bI,ad,bI,an,bI,bV]
 have ag:∀a b,b∈scN N M a->0<=b/\b<(n:Int):=λa b h=>eM g.lm (dx.1 h).2.1
 refine⟨F2,rfl,ao,λk p k1=>?_⟩
 obtain⟨x,h1,h2⟩:=ap k p k1
 refine⟨x,h1,?_⟩
 rcases h2 with ⟨a,b⟩ | ⟨d,a,b,c⟩
 · refine .inl ⟨a,λd h=>?_⟩
   obtain⟨e,_,P⟩:=h.min
   obtain⟨l,ai,K,X,_⟩:=P.list ag p k1
   have:=dP n l K X
   exact b e (by omega) P.1
 · obtain⟨l,ai,K,X,_⟩:=c.list ag p k1
   have:=dP n l K X
   exact .inr ⟨d,a,by omega,c⟩
theorem vY {s:Int}(hs:In M s):∃F,lr N M s=some F/\iP N F s=some (decide (Far (scN N M) s)):=by
 obtain⟨F,G,O,z⟩:=zR g hs
 obtain⟨J,Q⟩:=eM g.lm hs
 have hl:=g.ln
 refine⟨F,G,?_⟩
 obtain⟨row,m⟩:=cF (xs:=N) (i:=s) J (by omega)
 obtain⟨P,C⟩:=g.row s row m
 have H:∀{d:Nat} {u:Int},Lv (scN N M) s d u->In M u:=λ{d u} h=>by
  cases d with
  | zero=>
   have h:u=s:=h
   rw[h];exact hs
  | succ d=>
   obtain⟨w,j,_⟩:=h
   exact(dx.1 j).1
 have A:∀u∈row,∀x,idx F u=some x->(0<=x↔(In M u/\Wy (scN N M) noV u s)):=λu e x hx=>by
  obtain⟨t,v⟩:=C u e
  obtain⟨y,D,K⟩:=z u t v
  rw[hx]at D
  cases D
  rcases K with ⟨a,b⟩ | ⟨d,a,b,c⟩
  · constructor
    · intro h;omega
    · rintro⟨_,w⟩
      obtain⟨d,hd⟩:=w.lv
      exact absurd hd (b d)
  · exact⟨λ_=>⟨H c.1,c.1.wy⟩,λ_=>by omega⟩
 obtain⟨o,w1,l⟩:=cC (f:=eQ N F s) (λi (q:Int)=>q=(i:Int)/\i<=row.length/\∀u∈row.take i,¬(In M u/\Wy (scN N M) noV u s)) (λr=>r=true/\Far (scN N M) s) (λ_=>¬Far (scN N M) s) row.length (λi q ⟨E,L,p⟩=>by
  subst E
  unfold eQ
  rw[m,bI]
  by_cases B:i<row.length
  · have e:row[i]? =some row[i]:=bJ B
    generalize row[i]=u at e
    have n:=bQ e
    obtain⟨t,v⟩:=C u n
    obtain⟨x,hx,_⟩:=z u t v
    rw[decide_eq_true (show(i:Int)<(row.length:Int) by omega),cond_true,bI,bS,e,bI,hx,bI]
    by_cases h:0<=x
    · rw[decide_eq_true h,cond_true]
      obtain⟨a,b⟩:=(A u n x hx).1 h
      exact⟨_,rfl,rfl,u,dx.2 ⟨hs,a,row,m,n⟩,b⟩
    · rw[decide_eq_false h,cond_false]
      refine⟨_,rfl,B,by rw[wr' (by omega) (by omega)];omega,by omega,λw j=>?_⟩
      rw[Ae,e]at j
      rcases Ad.1 j with j | j
      · exact p w j
      · have:w=u:=by simpa using j
        subst this
        exact λk=>h ((A w n x hx).2 k)
  · have:i=row.length:=by omega
    subst this
    rw[decide_eq_false (Int.lt_irrefl _),cond_false]
    rw[List.take_length]at p
    refine⟨_,rfl,?_⟩
    rintro⟨y,hy,w⟩
    obtain⟨_,a,r,hr,I⟩:=dx.1 hy
    rw[m]at hr
    cases hr
    exact p y I ⟨a,w⟩) (2 ^ 64) 0 0 (by omega) ⟨rfl,Nat.zero_le _,λu e=>by simp at e⟩ (by omega)
 unfold iP
 rw[w1,bI]
 match o,l with
 | .inl r,l=>rw[mF,l.1,decide_eq_true l.2]
 | .inr _,l=>rw[bV,decide_eq_false l]
end
theorem zS {n:Nat}(hn:n<=256) (S:List Int):∃M,lu (n:Int) S=some M/\M.length=n/\∀v,In M v↔(0<=v/\v<n)/\v∉S:=by
 have hr:rng (n:Int)=some ():=by unfold rng;rw[if_pos (by omega)]
 unfold lu
 rw[hr,bI,Int.sub_zero,Int.toNat_natCast]
 obtain⟨M,h1,h2,c⟩:=cv (f:=jF S) (λj (M:List Bool)=>M.length=j/\∀i:Nat,i<j->M[i]? =some (!decide ((i:Int)∈S))) n (s:=[]) ⟨rfl,λi a=>absurd a (Nat.not_lt_zero i)⟩ (λj M hj ⟨a1,a2⟩=>by
  unfold jF
  rw[p5,bI,app1 (by omega) rfl,bI]
  refine⟨_,rfl,by simp[a1],λi a=>?_⟩
  by_cases e:i=j
  · subst e;rw[← a1];simp
  · rw[List.getElem?_append_left (by omega)];exact a2 i (by omega))
 rw[h1,bI,bV]
 refine⟨M,rfl,h2,λv=>?_⟩
 constructor
 · intro h
   obtain⟨b,d⟩:=eM h2 h
   obtain⟨i,a⟩:=cY b
   subst a
   unfold In at h
   rw[bS,c i (by omega)]at h
   exact⟨⟨b,d⟩,by simpa using h⟩
 · rintro⟨⟨b,d⟩,h⟩
   obtain⟨i,a⟩:=cY b
   subst a
   unfold In
   rw[bS,c i (by omega)]
   simp[h]
noncomputable def hitN (N:List (List Int)) (M:List Bool) (S:List Int):List Int:=S.filter λs=>decide (In M s/\Far (scN N M) s)
theorem xi {N:List (List Int)}{n:Nat}(b:N.length=n) (hn:n<=256) (hr:∀v r,idx N v=some r->r.length<=10000/\∀u∈r,0<=u/\u<n){p:Pair}(l:St n p.Ask):∃M,lu (N.length:Int) p.Give=some M/\M.length=n/\(∀v,In M v↔(0<=v/\v<n)/\v∉p.Give)/\ic N p=some ((hitN N M p.Ask).headD (-1)):=by
 obtain⟨M,d,e,A⟩:=zS hn p.Give
 have g:Gr N M n:=⟨b,e,hn,hr⟩
 refine⟨M,by rw[b];exact d,e,A,?_⟩
 unfold ic
 rw[b,d,bI]
 have z:∀(us:List Int) (j:Nat),(∀(i:Nat) u,us[i]? =some u->p.Ask[j+i]? =some u)->cntM (du N p M) us.length (j:Int) ()=some (match us.filter λs=>decide (In M s/\Far (scN N M) s) with | []=> .inr () | x::_=> .inl x):=λus=>by
  induction us with
  | nil=>exact λj _=>rfl
  | cons u us y=>
   intro j h
   have c:=h 0 u rfl
   obtain⟨C,D⟩:=l.rng u (bQ c)
   have hb:du N p M (j:Int) ()=some (if In M u/\Far (scN N M) u then .inl u else .inr (.inr ())):=by
    unfold du
    have o:p.Ask[j]? =some u:=c
    rw[bS,o,bI,dz (B:=M) C (by omega),bI]
    by_cases hM:In M u
    · obtain⟨F,f,k⟩:=vY g hM
      rw[decide_eq_true hM,cond_true,f,bI,k,bI,bI]
      by_cases hf:Far (scN N M) u
      · rw[decide_eq_true hf,cond_true,if_pos ⟨hM,hf⟩]
      · rw[decide_eq_false hf,cond_false,if_neg (λh=>hf h.2)]
    · rw[decide_eq_false hM,cond_false,bI,cond_false,if_neg (λh=>hM h.1)]
   show bH (du N p M (j:Int) ()) _=_
   rw[hb,bI,List.filter_cons]
   by_cases a:In M u/\Far (scN N M) u
   · rw[if_pos a,if_pos (decide_eq_true a)];rfl
   · rw[if_neg a,if_neg (by simpa using a)]
     exact y (j+1) λi w q=>by
      have:=h (i+1) w (by simpa using q)
      rw[show j+(i+1)=(j+1)+i from by omega]at this
      exact this
 have hk:=z p.Ask 0 (λi u h=>by rw[Nat.zero_add];exact h)
 have m:cntM (du N p M) p.Ask.length 0 ()=_:=hk
 rw[m,bI]
 show aft _ _ _=some ((p.Ask.filter λs=>decide (In M s/\Far (scN N M) s)).headD (-1))
 cases p.Ask.filter λs=>decide (In M s/\Far (scN N M) s) with
 | nil=>rfl
 | cons x t=>rfl
end Go.Proofs.YtleekpaohfpooaaGreat
set_option linter.unusedVariables false
set_option linter.unusedSimpArgs false
namespace Go.Proofs.YtleekpaohfpooaaGreat
open Go Go.Wk Go.Proofs
open Classical
theorem wN {A B:List Bool}{n:Nat}(ha:A.length=n) (hb:B.length=n) (h:∀v,In A v↔In B v):A=B:=List.ext_getElem? λi=>by
 by_cases a:i<n
 · rw[← bS,← bS,dz (B:=A) (by omega) (by omega),dz (B:=B) (by omega) (by omega)]
   congr 1
   exact decide_eq_decide.2 (h _)
 · rw[Ac (by omega),Ac (by omega)]
def mayM (n:Nat) (S:List Int):List Bool:=(List.range n).map λi:Nat=> !decide ((i:Int)∈S)
theorem jr (n:Nat) (S:List Int):(mayM n S).length=n:=by simp[mayM]
theorem rK {n:Nat}{S:List Int}(v:Int):In (mayM n S) v↔(0<=v/\v<n)/\v∉S:=by
 constructor
 · intro h
   obtain⟨a,c⟩:=eM (jr n S) h
   obtain⟨i,b⟩:=cY a
   subst b
   unfold In mayM at h
   rw[bS,List.getElem?_map,List.getElem?_range (by omega)]at h
   exact⟨⟨a,c⟩,by simpa using h⟩
 · rintro⟨⟨a,c⟩,h⟩
   obtain⟨i,b⟩:=cY a
   subst b
   unfold In mayM
   rw[bS,List.getElem?_map,List.getElem?_range (by omega)]
   simp[h]
noncomputable def hitP (N:List (List Int)) (p:Pair):List Int:=hitN N (mayM N.length p.Give) p.Ask
structure Gn (N:List (List Int)) (n:Nat):Prop where
 ln:N.length=n
 le:n<=256
 row:∀v r,idx N v=some r->r.length<=10000/\∀u∈r,0<=u/\u<n
theorem Gn.gr {N:List (List Int)}{n:Nat}(g:Gn N n) (S:List Int):Gr N (mayM n S) n:=⟨g.ln,jr n S,g.le,g.row⟩
section
variable {N:List (List Int)}{n:Nat}(g:Gn N n)
include g
theorem vV {p:Pair}(a:St n p.Ask):ic N p=some ((hitP N p).headD (-1)):=by
 obtain⟨M,_,b,c,d⟩:=xi g.ln g.le g.row a
 rw[d]
 have:M=mayM n p.Give:=wN b (jr _ _) λv=>by rw[c,rK]
 rw[this]
 unfold hitP
 rw[g.ln]
omit g in
theorem wx {p:Pair}(a:St n p.Ask):Asc (hitP N p):=a.asc.filter _
theorem nI {p:Pair}(z:Int):z∈hitP N p↔z∈p.Ask/\Far (scN N (mayM n p.Give)) z:=by
 unfold hitP hitN
 rw[g.ln,List.mem_filter,decide_eq_true_eq]
 exact⟨λ⟨a,_,b⟩=>⟨a,b⟩,λ⟨a,b⟩=>⟨a,mb b,b⟩⟩
theorem vF {w:watch}(c:w.next=N) (S:List Int):eO w S=some (mayM n S):=by
 have hn:=g.le
 unfold eO
 rw[c,g.ln,dD (by omega) rfl,bI,List.length_replicate]
 obtain⟨M,h1,h2,b⟩:=fill (f:=dL S) (λj=> !decide ((j:Int)∈S)) n (s0:=bO n false) (by simp) (λj s hj hs=>by
  unfold dL
  rw[conI,bI])
 rw[h1,bI,bV]
 congr 1
 refine List.ext_getElem? λi=>?_
 by_cases a:i<n
 · rw[← bS,b i a]
   unfold mayM
   rw[List.getElem?_map,List.getElem?_range a];rfl
 · rw[Ac (by omega),Ac (by rw[jr];omega)]
theorem vG {w:watch}(q:w.next=N){p:Pair}(r:St n p.Ask):eP w p=some (hitP N p):=by
 have hn:=g.le
 have B:=g.gr p.Give
 unfold eP
 rw[vF g q,bI,q,xL B,bI]
 have E:∀S∈loopsN N (mayM n p.Give),S.length<=256:=λS c=>by
  unfold loopsN at c
  obtain⟨v,_,rfl⟩:=List.mem_map.1 c
  unfold partG
  have:=lM (mayM n p.Give) (mayM n p.Give).length
  rw[jr]at this
  exact Nat.le_trans (List.length_filter_le _ _) (by rw[jr];omega)
 have F:(loopsN N (mayM n p.Give)).length<=256:=by
  unfold loopsN
  rw[Ah]
  have:=lM (mayM n p.Give) (mayM n p.Give).length
  rw[jr]at this
  exact Nat.le_trans (List.length_filter_le _ _) (by rw[jr];omega)
 obtain⟨s,h1,h2,L⟩:=cv (f:=dM p (loopsN N (mayM n p.Give))) (λj (s:List Int)=>s=((loopsN N (mayM n p.Give)).take j).flatMap (λS=>S.filter λx=>decide (x∈p.Ask))/\s.length<=j * 256) (loopsN N (mayM n p.Give)).length (s:=[]) ⟨rfl,by simp⟩ (λj s hj ⟨a1,a2⟩=>by
  have c:(loopsN N (mayM n p.Give))[j]? =some (loopsN N (mayM n p.Give))[j]:=bJ hj
  generalize(loopsN N (mayM n p.Give))[j]=S at c
  have M:=E S (bQ c)
  obtain⟨t,k1,d,l⟩:=cv (f:=dN p S) (λi (t:List Int)=>t=s++(S.take i).filter (λx=>decide (x∈p.Ask))/\t.length<=j * 256+i) S.length (s:=s) ⟨by simp,Nat.le_trans a2 (Nat.le_add_right _ _)⟩ (λi t C ⟨m,K⟩=>by
   have hx:S[i]? =some S[i]:=bJ C
   generalize S[i]=x at hx
   unfold dN
   rw[bS,hx,bI,conI,bI,Ae,hx]
   by_cases h:x∈p.Ask
   · rw[decide_eq_true h,cond_true,app1 (by omega) rfl,bI,bI]
     exact⟨_,rfl,by rw[m];simp[List.filter_append,h],by simp;omega⟩
   · rw[decide_eq_false h,cond_false,bI]
     exact⟨_,rfl,by rw[m];simp[List.filter_append,h],by omega⟩)
  unfold dM
  rw[bS,c,bI,k1,bI,bV]
  rw[List.take_length]at d
  refine⟨_,rfl,?_,by omega⟩
  rw[d,a1,Ae,c,List.flatMap_append]
  simp)
 rw[List.take_length]at h2
 rw[h1,bI,bV]
 have H:s.Nodup:=by
  rw[h2]
  unfold loopsN
  rw[List.flatMap_map,List.Nodup,List.pairwise_flatMap]
  refine⟨λv _=>?_,?_⟩
  · exact List.Pairwise.filter _ (gT (kY v))
  · have A:Asc ((fu (mayM n p.Give) (mayM n p.Give).length).filter λv=>decide (Lead (scN N (mayM n p.Give)) v)):=(nr _ _).filter _
    refine A.imp_of_mem λ{a b} ha hb u x hx y hy e=>?_
    subst e
    have D:=of_decide_eq_true (List.mem_filter.1 hb).2
    have k1:=(eR.1 (List.mem_filter.1 hx).1).2
    have d:=(eR.1 (List.mem_filter.1 hy).1).2
    exact D.2 a u (k1.trans d.symm)
 have G:∀z,z∈s↔z∈hitP N p:=λz=>by
  rw[h2,List.mem_flatMap,nI g]
  constructor
  · rintro⟨S,c,J⟩
    obtain⟨h1,h2⟩:=List.mem_filter.1 J
    unfold loopsN at c
    obtain⟨v,I,rfl⟩:=List.mem_map.1 c
    have hl:=of_decide_eq_true (List.mem_filter.1 I).2
    exact⟨of_decide_eq_true h2,hl.1.akin (eR.1 h1).2⟩
  · rintro⟨h1,h2⟩
    refine⟨partG N (mayM n p.Give) z,?_,List.mem_filter.2 ⟨eR.2 ⟨mb h2,Akin.refl z⟩,decide_eq_true h1⟩⟩
    obtain⟨t,k1,d,l⟩:=pR h2
    unfold loopsN
    exact List.mem_map.2 ⟨_,List.mem_filter.2 ⟨dO.2 (mb l.1),decide_eq_true l⟩,(tb d).symm⟩
 have o:(s.mergeSort λx y=>decide (x<=y))=hitP N p:=nj (tI H) (wx r) λz=>by rw[(List.mergeSort_perm s _).mem_iff,G]
 have hs:cJ s=some (hitP N p):=by
  unfold cJ
  by_cases h:0<s.length
  · have hm:(loopsN N (mayM n p.Give)).length * 256<=256 * 256:=Nat.mul_le_mul_right _ F
    rw[if_pos ⟨h,by omega⟩,o]
  · have e:s=[]:=List.length_eq_zero_iff.1 (by omega)
    rw[if_neg (λk=>h k.1),if_pos (by omega)]
    rw[← o,e,List.mergeSort_nil]
 rw[hs];rfl
end
noncomputable def brkN (N:List (List Int)) (ps:List Pair):Nat->List Int
 | 0=>[]
 | j+1=>brkN N ps j++(match ps[j]? with | some p=>if hitP N p=[] then[] else[(j:Int)] | none=>[])
theorem mG (N:List (List Int)) (ps:List Pair) (j:Nat):brkN N ps (j+1)=brkN N ps j++(match ps[j]? with | some p=>if hitP N p=[] then[] else[(j:Int)] | none=>[]):=rfl
theorem pg (N:List (List Int)) (ps:List Pair):∀j,(brkN N ps j).length<=j
 | 0=>Nat.le_refl _
 | j+1=>by
  have:=pg N ps j
  rw[mG,z5]
  have:(match ps[j]? with | some p=>if hitP N p=[] then[] else[(j:Int)] | none=>[]:List Int).length<=1:=by
   cases ps[j]? with
   | none=>simp
   | some p=>dsimp only;split <;> simp
  omega
theorem sD (N:List (List Int)) (ps:List Pair):∀(j:Nat) (z:Int),z∈brkN N ps j↔∃i:Nat,i<j/\z=(i:Int)/\∃p,ps[i]? =some p/\hitP N p≠[]
 | 0,z=>by simp[brkN]
 | j+1,z=>by
  rw[mG,Ad,sD N ps j]
  constructor
  · rintro(⟨i,h1,h2⟩ | h)
    · exact⟨i,by omega,h2⟩
    · cases e:ps[j]? with
      | none=>rw[e]at h;cases h
      | some p=>
       rw[e]at h
       dsimp only at h
       by_cases hp:hitP N p=[]
       · rw[if_pos hp]at h;cases h
       · rw[if_neg hp,z6]at h
         exact⟨j,by omega,h,p,e,hp⟩
  · rintro⟨i,h1,h2,p,a,b⟩
    by_cases e:i=j
    · subst e
      right
      rw[a]
      dsimp only
      rw[if_neg b,z6]
      exact h2
    · exact .inl ⟨i,by omega,h2,p,a,b⟩
section
variable {N:List (List Int)}{n:Nat}(g:Gn N n){ps:List Pair}(hp:∀p∈ps,St n p.Ask) (hl:ps.length<=4)
include g hp hl
theorem vC {w:watch}(c:w.next=N) (b:w.pairs=ps):fo w=some (brkN N ps ps.length):=by
 obtain⟨s,h1,h2⟩:=cv (f:=dS w) (λj s=>s=brkN N ps j) ps.length (s:=[]) rfl (λj s hj hs=>by
  subst hs
  have a:ps[j]? =some ps[j]:=bJ hj
  generalize ps[j]=p at a
  have d:=pg N ps j
  unfold dS
  rw[b,bS,a,bI,vG g c (hp p (bQ a)),bI]
  rw[mG,a]
  dsimp only
  by_cases h:hitP N p=[]
  · rw[h,if_pos rfl,List.append_nil]
    exact⟨_,rfl,rfl⟩
  · have:0<(hitP N p).length:=List.length_pos_iff.2 h
    rw[decide_eq_true (by omega),cond_true,app1 (by omega) rfl,if_neg h]
    exact⟨_,rfl,rfl⟩)
 unfold fo
 rw[b,h1,bI,bV,h2]
theorem xh:∃q,bU (eT (N,ps,true)) (2 ^ 64) ([],0)=some (.inr (brkN N ps ps.length,q)):=by
 obtain⟨o,w1,b⟩:=cC (f:=eT (N,ps,true)) (λj (s:List Int×Int)=>s.2=(j:Int)/\j<=ps.length/\s.1=brkN N ps j) (λ_=>False) (λs=>s.1=brkN N ps ps.length) ps.length (λj s ⟨a1,a2,k⟩=>by
  obtain⟨xs,i⟩:=s
  dsimp only at a1 k
  subst a1 k
  unfold eT
  dsimp only
  rw[cond_true,bI]
  by_cases e:j<ps.length
  · have c:ps[j]? =some ps[j]:=bJ e
    generalize ps[j]=p at c
    have l:=hp p (bQ c)
    have n:=pg N ps j
    rw[decide_eq_true (show(j:Int)<(ps.length:Int) by omega),cond_true,bS,c,bI,vV g l,bI,wr' (by omega) (by omega)]
    have a:=mG N ps j
    rw[c]at a
    dsimp only at a
    cases d:hitP N p with
    | nil=>
     rw[d,if_pos rfl,List.append_nil]at a
     refine⟨_,rfl,e,by dsimp only;omega,by omega,a.symm⟩
    | cons x t=>
     have m:0<=x:=by
      have:x∈hitP N p:=by rw[d];simp
      exact(l.rng x ((nI g x).1 this).1).1
     rw[d,if_neg (by simp)]at a
     rw[List.headD_cons,decide_eq_true m,cond_true,app1 (by omega) rfl]
     exact⟨_,rfl,e,by dsimp only;omega,by omega,a.symm⟩
  · have:j=ps.length:=by omega
    subst this
    rw[decide_eq_false (Int.lt_irrefl _),cond_false]
    exact⟨_,rfl,rfl⟩) (2 ^ 64) 0 ([],0) (by omega) ⟨rfl,Nat.zero_le _,rfl⟩ (by omega)
 match o,b with
 | .inr (xs,q),b=>
  have b:xs=brkN N ps ps.length:=b
  exact⟨q,by rw[w1,b]⟩
end
structure AK (p:Sig) (m:Machine) (cs:List Clause) (n k:Nat) (D:Det) (K:List Key) (w:watch):Prop where
 hs:sigOk p=true
 hm:machOk p m=true
 hc:dJ p cs=true
 ln:ltd p=((n:Nat):Int)
 kn:pw p.In=((k:Nat):Int)
 pr:PR n cs D
 hd:detOk p D=true
 pl:D.Pairs.length=cs.length
 wk:WK p m D k K w
theorem AK.gn {p:Sig}{m:Machine}{cs:List Clause}{n k:Nat}{D:Det}{K:List Key}{w:watch}(h:AK p m cs n k D K w):Gn w.next K.length:=⟨h.wk.prod.rl,h.wk.le,λv r hr=>by
 obtain⟨d,_⟩:=cX hr
 rw[cz d]at hr
 obtain⟨j,u,l,c⟩:=h.wk.prod.row _ r hr
 have g:=gk p.In
 have hk:=h.kn
 refine⟨by omega,λx hx=>?_⟩
 obtain⟨i,a⟩:=List.getElem?_of_mem hx
 have f:=(bK.1 a).1
 obtain⟨y,b,o,e⟩:=c i (by omega)
 rw[a]at b
 cases b
 have:=(bK.1 e).1
 omega⟩
theorem AK.ps {p:Sig}{m:Machine}{cs:List Clause}{n k:Nat}{D:Det}{K:List Key}{w:watch}(h:AK p m cs n k D K w):w.pairs.length=cs.length/\w.pairs.length<=4/\∀x∈w.pairs,St K.length x.Ask:=by
 obtain⟨_,_,a,_⟩:=dc h.hd
 have:=h.pl
 rw[h.wk.pairs,Ah]
 refine⟨h.pl,a,λx hx=>?_⟩
 obtain⟨y,_,rfl⟩:=List.mem_map.1 hx
 show St K.length (partN K y.Ask K.length)
 rw[mL _ _ _ (Nat.le_refl _)]
 exact ul _ _ _ _
theorem vx (p:Sig) (m:Machine){cs:List Clause}(hb:∀c∈cs,Clause.bd c):(iM p m cs=some ([],[],false)/\gL p m cs=some (none,false)/\(sigOk p=true->machOk p m=true->dJ p cs=true->2<cs.length\/∃n k D,ltd p=((n:Nat):Int)/\pw p.In=((k:Nat):Int)/\PR n cs D/\cU p cs=some (D,true)/\ManyK m D (pw p.In) k)) \/
 ∃n k D K w,AK p m cs n k D K w/\iM p m cs=some (w.next,w.pairs,true)/\gL p m cs=some (some w,true):=by
 unfold iM gL
 rw[lK,bI]
 rcases nB p hb with ⟨h1,h2,e⟩ | ⟨hs,hc,n,D,hn,q,d,hd,hl,h1,h2⟩
 · left
   rw[h1,h2]
   cases hs:sigOk p with
   | false=>exact⟨rfl,rfl,λh=>by cases h⟩
   | true=>
    rw[io hs]
    cases machOk p m <;> exact⟨rfl,rfl,λ_ _ hc=> .inl (e hs hc)⟩
 · have f:∀x∈D.Pairs,x.Ask.length<=1000000000/\x.Give.length<=1000000000:=λx hx=>by
    obtain⟨j,l,_,_⟩:=dc hd
    have hD:=hd
    unfold detOk at hD
    simp only[sh]at hD
    have hp:=hD.1.2
    unfold pairsOk at hp
    rw[sh,List.all_eq_true]at hp
    have:=hp.2 x hx
    unfold pairOk at this
    rw[sh]at this
    have a1:=(St.of this.1).len
    have a2:=(St.of this.2).len
    omega
   rw[h1,h2,hs,io hs]
   simp only[zZ,cond_false,bI]
   unfold mQ
   rw[mr,hs,Bool.true_and,hU hs f,hd]
   cases hm:machOk p m with
   | false=>exact .inl ⟨rfl,rfl,λ_ h=>by cases h⟩
   | true=>
    have r:=gk p.In
    obtain⟨k,hk⟩:=cY (z:=pw p.In) (by omega)
    simp only[zZ,cond_false,bI]
    rcases qB hs hm hd hk with ⟨w1,a,b⟩ | ⟨o,w,K,w1,a,b,g,_,i⟩
    · left
      rw[w1,a]
      exact⟨rfl,rfl,λ_ _ _=> .inr ⟨n,k,D,hn,hk,d,rfl,b⟩⟩
    · right
      refine⟨n,k,D,K,w,⟨hs,hm,hc,hn,hk,d,hd,hl,i⟩,?_,?_⟩
      · rw[w1]
        simp only[bI,zZ,cond_false,b,bV,g]
      · rw[a];rfl
theorem tN (p:Sig) (m:Machine){cs:List Clause}{n k:Nat}{D:Det}{K:List Key}{w:watch}(h:AK p m cs n k D K w) (h1:iM p m cs=some (w.next,w.pairs,true)):kb p m cs=some (brkN w.next w.pairs w.pairs.length):=by
 obtain⟨q,a⟩:=xh h.gn h.ps.2.2 h.ps.2.1
 unfold kb
 rw[h1,bI,a,bI,bV]
end Go.Proofs.YtleekpaohfpooaaGreat
set_option linter.unusedVariables false
set_option linter.unusedSimpArgs false
namespace Go.Proofs.YtleekpaohfpooaaGreat
open Go Go.Wk Go.Proofs
def Eg (N:List (List Int)) (v i x:Int):Prop:=∃row,idx N v=some row/\idx row i=some x
theorem Eg.uniq {N:List (List Int)}{v i x y:Int}:Eg N v i x->Eg N v i y->x=y:=λ⟨r,h1,h2⟩ ⟨r',a,b⟩=>by
 rw[h1]at a;cases a
 rw[h2]at b;cases b
 rfl
def Way (N:List (List Int)) (M:List Bool):Int->List Int->Int->Prop
 | v,[],u=>u=v
 | v,i::w,u=>∃x,Eg N v i x/\In M x/\Way N M x w u
theorem Way.snoc {N:List (List Int)}{M:List Bool}:∀{w:List Int}{v u i x:Int},Way N M v w u->Eg N u i x->In M x->Way N M v (w++[i]) x
 | [],v,u,i,x,h,e,hx=>by
  have h:u=v:=h
  subst h
  exact⟨x,e,hx,rfl⟩
 | j::w,v,u,i,x,⟨y,h1,h2,h3⟩,e,hx=>⟨y,h1,h2,h3.snoc e hx⟩
theorem Way.uniq {N:List (List Int)}{M:List Bool}:∀{w:List Int}{v u a:Int},Way N M v w u->Way N M v w a->u=a
 | [],v,u,a,h,b=>by
  have h:u=v:=h
  have b:a=v:=b
  rw[h,b]
 | j::w,v,u,a,⟨y,h1,h2,h3⟩,⟨y',h1',h2',h3'⟩=>by
  have:=h1.uniq h1'
  subst this
  exact h3.uniq h3'
def lexL:List Int->List Int->Prop
 | a::s,b::t=>a<b\/(a=b/\lexL s t)
 | _,_=>False
theorem lexL.trans:∀{a b c:List Int},lexL a b->lexL b c->lexL a c
 | [],_,_,h,_=>by cases ‹List Int› <;> exact h.elim
 | _::_,[],_,h,_=>h.elim
 | _::_,_::_,[],_,h=>h.elim
 | x::a,y::b,z::c,h,d=>by
  rcases h with h | ⟨h,k⟩
  · rcases d with d | ⟨d,k'⟩
    · exact .inl (by omega)
    · exact .inl (by omega)
  · rcases d with d | ⟨d,k'⟩
    · exact .inl (by omega)
    · exact .inr ⟨by omega,k.trans k'⟩
theorem lexL.irr:∀{a:List Int},¬lexL a a
 | [],h=>h
 | x::a,h=>by
  rcases h with h | ⟨_,k⟩
  · omega
  · exact k.irr
theorem lexL.app {x y:Int}:∀{a b:List Int},lexL a b->lexL (a++[x]) (b++[y])
 | [],b,h=>by cases b <;> exact h.elim
 | _::_,[],h=>h.elim
 | p::a,q::b,h=>by
  rcases h with h | ⟨h,k⟩
  · exact .inl h
  · exact .inr ⟨h,k.app⟩
theorem lexL.last {i j:Int}(h:i<j):∀a:List Int,lexL (a++[i]) (a++[j])
 | []=> .inl h
 | p::a=> .inr ⟨rfl,lexL.last h a⟩
def slt (a b:List Int):Prop:=a.length<b.length\/(a.length=b.length/\lexL a b)
def sle (a b:List Int):Prop:=a=b\/slt a b
theorem slt.trans {a b c:List Int}(h:slt a b) (d:slt b c):slt a c:=by
 rcases h with h | ⟨h,k⟩
 · rcases d with d | ⟨d,k'⟩
   · exact .inl (by omega)
   · exact .inl (by omega)
 · rcases d with d | ⟨d,k'⟩
   · exact .inl (by omega)
   · exact .inr ⟨by omega,k.trans k'⟩
theorem slt.irr {a:List Int}(h:slt a a):False:=by
 rcases h with h | ⟨h,k⟩
 · omega
 · exact k.irr
theorem slt.app {a b:List Int}{x y:Int}(h:slt a b):slt (a++[x]) (b++[y]):=by
 rcases h with h | ⟨h,k⟩
 · exact .inl (by simp only[z5,z8,Aa];omega)
 · exact .inr ⟨by simp[h],k.app⟩
theorem slt.last {i j:Int}(h:i<j) (a:List Int):slt (a++[i]) (a++[j]):= .inr ⟨by simp,lexL.last h a⟩
theorem sle.trans {a b c:List Int}(h:sle a b) (d:sle b c):sle a c:=by
 rcases h with rfl | h
 · exact d
 · rcases d with rfl | d
   · exact .inr h
   · exact .inr (h.trans d)
theorem sle.anti {a b:List Int}(h:sle a b) (c:sle b a):a=b:=by
 rcases h with rfl | h
 · rfl
 · rcases c with rfl | c
   · rfl
   · exact(h.trans c).irr.elim
theorem sle.slt {a b c:List Int}(h:sle a b) (d:slt b c):slt a c:=by
 rcases h with rfl | h
 · exact d
 · exact h.trans d
theorem sle.app {a b:List Int}(x:Int) (h:sle a b):sle (a++[x]) (b++[x]):=by
 rcases h with rfl | h
 · exact .inl rfl
 · exact .inr h.app
theorem sle.cons {a b:List Int}(x:Int) (h:sle a b):sle (x::a) (x::b):=by
 rcases h with rfl | h | ⟨h,k⟩
 · exact .inl rfl
 · exact .inr (.inl (by simp only[z8];omega))
 · exact .inr (.inr ⟨by simp only[z8,h],.inr ⟨rfl,k⟩⟩)
def LeastW (N:List (List Int)) (M:List Bool) (v u:Int) (w:List Int):Prop:=w≠[]/\Way N M v w u/\∀w',w'≠[]->Way N M v w' u->sle w w'
theorem LeastW.uniq {N:List (List Int)}{M:List Bool}{v u:Int}{w w':List Int}(h:LeastW N M v u w) (a:LeastW N M v u w'):w=w':=(h.2.2 w' a.1 a.2.1).anti (a.2.2 w h.1 h.2.1)
theorem Lv.way {N:List (List Int)}{M:List Bool}{s:Int}:∀{d:Nat}{k:Int},Lv (scN N M) s d k->∃w:List Int,w.length=d/\Way N M k w s
 | 0,k,h=>⟨[],rfl,(show k=s from h).symm⟩
 | d+1,k,⟨u,h1,h2⟩=>by
  obtain⟨w,w1,c⟩:=Lv.way h2
  obtain⟨_,b,row,hr,hm⟩:=dx.1 h1
  obtain⟨i,a⟩:=List.getElem?_of_mem hm
  exact⟨(i:Int)::w,by simp[w1],u,⟨row,hr,by rw[bS];exact a⟩,b,c⟩
theorem Way.lv {N:List (List Int)}{M:List Bool}{s:Int}:∀{w:List Int}{k:Int},In M k->Way N M k w s->Lv (scN N M) s w.length k
 | [],k,_,h=>(show s=k from h).symm
 | i::w,k,hk,⟨x,⟨row,hr,hx⟩,hm,h⟩=>⟨x,dx.2 ⟨hk,hm,row,hr,by
  obtain⟨b,_,a⟩:=c8 hx
  exact bQ a⟩,Way.lv hm h⟩
end Go.Proofs.YtleekpaohfpooaaGreat
set_option linter.unusedVariables false
set_option linter.unusedSimpArgs false
namespace Go.Proofs.YtleekpaohfpooaaGreat
open Go Go.Wk Go.Proofs
theorem Eg.tab {N:List (List Int)}{v i x:Int}(h:Eg N v i x):tab N v i=x:=by
 obtain⟨row,h1,h2⟩:=h
 obtain⟨d,_,b⟩:=c8 h1
 obtain⟨c,_,a⟩:=c8 h2
 unfold Go.Proofs.YtleekpaohfpooaaGreat.tab
 rw[List.getD_eq_getElem?_getD (l:=N),b,Option.getD_some,List.getD_eq_getElem?_getD,a,Option.getD_some]
theorem wT {k i:Nat}(h:i<k):(nums k)[i]? =some (i:Int):=by
 unfold nums
 rw[List.getElem?_map,List.getElem?_range h];rfl
section
variable {p:Sig}{m:Machine}{d:Det}{k:Nat}{K:List Key}{w:watch}(h:WK p m d k K w)
include h
theorem xv {M:List Bool}(hM:∀v:Int,0<=v->v<K.length->In M v):∀(q:Nat),q<K.length->∃R,Way w.next M 0 R (q:Int):=λq=>by
 induction q using Nat.strongRecOn with
 | ind q ih=>
  intro m
  have a:K[q]? =some K[q]:=bJ m
  rcases h.prod.src q _ a with rfl | ⟨j,x,v,a1,a2,d,f,g⟩
  · exact⟨[],rfl⟩
  · obtain⟨R,l⟩:=ih j a1 a2
    have hrl:=h.prod.rl
    have hr:w.next[j]? =some w.next[j]:=bJ (by omega)
    obtain⟨_,o,c,i⟩:=h.prod.row j _ hr
    rw[d]at c;cases c
    obtain⟨y,n,p,b⟩:=i x f
    rw[← g,← a]at b
    have e:=(List.getElem?_inj (by have:=(bK.1 (b.trans a)).1;exact this) h.prod.nod).1 b
    have k:y=(q:Int):=by omega
    subst k
    exact⟨R++[(x:Int)],l.snoc ⟨_,by rw[bS];exact hr,by rw[bS];exact n⟩ (hM _ (by omega) (by omega))⟩
theorem vu {v i y:Int}(hE:Eg w.next v i y){u:Key}(d:K[v.toNat]? =some u):0<=i/\i<k/\tab w.letters v i=tab m.Out u.1 i * pw p.In+i/\∃z:Key,K[y.toNat]? =some z/\z.1=tab m.Next u.1 i:=by
 obtain⟨row,a,b⟩:=hE
 obtain⟨g,_⟩:=cX a
 obtain⟨e,o⟩:=cX b
 rw[cz g]at a
 obtain⟨q,r,f,j⟩:=h.prod.row _ row a
 rw[d]at f;cases f
 obtain⟨i,rfl⟩:=cY e
 have c:i<k:=by omega
 obtain⟨s,l,t,n⟩:=j i c
 rw[bS,l]at b
 cases b
 refine⟨e,by omega,?_,_,n,rfl⟩
 have hl:=h.let_.2 _ u d
 have:Eg w.letters v (i:Int) (letW m (pw p.In) u i):=⟨_,by rw[cz g];exact hl,by rw[bS,List.getElem?_map,wT c];rfl⟩
 exact this.tab
end
section
variable {p:Sig}{m:Machine}{D:Det}{k:Nat}{K:List Key}{w:watch}(h:WK p m D k K w) (hm:machOk p m=true) (hk:pw p.In=(k:Int)){n:Nat}(hn:ltd p=n)
include h hm hk hn
theorem vv {v i x:Int}(j:0<=v) (k:v<K.length) (hE:Eg w.next v i x):0<=i/\i<pw p.In/\(0<=x/\x<K.length)/\0<=tab w.letters v i/\tab w.letters v i<n/\tab w.letters v i=tab m.Out (keyAt K v).1 i * pw p.In+i/\(keyAt K x).2=tab D.Next (keyAt K v).2 (tab w.letters v i)/\0<=(keyAt K v).2/\(keyAt K v).2<D.Next.length:=by
 have d:=iY j k
 obtain⟨c,o,a,_⟩:=vu h hE d
 obtain⟨e,f,g⟩:=od h.prod j k c o
 rw[hE.tab]at e f g
 obtain⟨_,_,s,u,q⟩:=cB hm
 have b:=h.kin _ (bQ d)
 have B:=gk p.In
 have C:=gk p.Out
 obtain⟨E,y,z,r,A⟩:=jK q b.1 (by omega) c (by omega)
 have t:0<=tab m.Out (keyAt K v).1 i * pw p.In:=Int.mul_nonneg r (by omega)
 have l:(tab m.Out (keyAt K v).1 i+1) * pw p.In<=pw p.Out * pw p.In:=Int.mul_le_mul (by omega) (by omega) (by omega) (by omega)
 have hl:pw p.In * pw p.Out=(n:Int):=hn
 rw[Int.add_mul,Int.one_mul,Int.mul_comm (pw p.Out),hl]at l
 refine⟨c,by omega,⟨e,f⟩,by rw[a];omega,by rw[a];omega,a,?_,b.2.2.1,b.2.2.2⟩
 rw[g,a]
 rfl
end
end Go.Proofs.YtleekpaohfpooaaGreat
set_option linter.unusedVariables false
set_option linter.unusedSimpArgs false
namespace Go.Proofs.YtleekpaohfpooaaGreat
open Go Go.Wk Go.Proofs
def stP (p:Sig) (m:Machine) (c:Clause) (v:Key) (i:Int):Key:=(tab m.Next v.1 i,mst c v.2 (tab m.Out v.1 i * pw p.In+i))
def RunP (p:Sig) (m:Machine) (c:Clause) (G:List Int):Key->List Int->Key->Prop
 | v,[],u=>u=v
 | v,i::R,u=>0<=i/\i<pw p.In/\(stP p m c v i).2∉G/\RunP p m c G (stP p m c v i) R u
def Cnd (p:Sig) (m:Machine) (c:Clause):Prop:=∃(v:Key) (R Q:List Int),RunP p m c [] (0,0) R v/\v.2∈(monPair c.Kind).Ask/\Q≠[]/\RunP p m c (monPair c.Kind).Give v Q v
theorem Way.append {N:List (List Int)}{M:List Bool}{B:List Int}{x:Int}:∀{A:List Int}{v u:Int},Way N M v A u->Way N M u B x->Way N M v (A++B) x
 | [],v,u,h,h'=>by
  have h:u=v:=h
  subst h;exact h'
 | i::A,v,u,⟨y,h1,h2,h3⟩,h'=>⟨y,h1,h2,h3.append h'⟩
theorem pigeon {n:Nat}{f:Nat->Int}(h:∀i,0<=f i/\f i<n):∃i j,i<j/\f i=f j:=by
 by_cases hd:∃i j,i<j/\f i=f j
 · exact hd
 · exfalso
   have d:((List.range (n+1)).map f).Nodup:=by
    rw[List.Nodup,List.pairwise_map]
    refine List.pairwise_lt_range.imp λ{a b} c e=>hd ⟨a,b,c,e⟩
   have:=dP n _ d (λx hx=>by
    obtain⟨i,_,rfl⟩:=List.mem_map.1 hx
    exact h i)
   rw[Ah,List.length_range]at this
   omega
section
variable {p:Sig}{m:Machine}{D:Det}{k:Nat}{K:List Key}{w:watch}(h:WK p m D k K w) (hm:machOk p m=true) (hd:detOk p D=true) (hk:pw p.In=(k:Int)){n:Nat}(hn:ltd p=n){c:Clause}{i:Nat}{π:Int->Int}(s:Sm n D c i π)
def ptP (K:List Key) (π:Int->Int) (v:Int):Key:=((keyAt K v).1,π (keyAt K v).2)
include h hm hk hn s
theorem vj {v j x:Int}(d:0<=v) (e:v<K.length) (hE:Eg w.next v j x):ptP K π x=stP p m c (ptP K π v) j:=by
 obtain⟨y,A,⟨q,r⟩,g,i,k,l,n,o⟩:=vv h hm hk hn d e hE
 have f:=iY d e
 obtain⟨_,_,_,z,t,u⟩:=vu h hE f
 have a:=iY q r
 rw[t]at a
 have b:z=keyAt K x:=Option.some.inj a
 unfold ptP stP
 dsimp only
 rw[← b,u,b,l,s.step _ _ n o g i,k]
theorem su {M:List Bool}{G:List Int}(b:∀y:Int,0<=y->y<K.length->In M y->(ptP K π y).2∉G):∀{R:List Int}{v u:Int},0<=v->v<K.length->Way w.next M v R u->RunP p m c G (ptP K π v) R (ptP K π u)
 | [],v,u,_,_,a=>by
  have a:u=v:=a
  rw[a];exact rfl
 | j::R,v,u,v0,v1,⟨x,h1,h2,h3⟩=>by
  obtain⟨g,i,⟨d,f⟩,_⟩:=vv h hm hk hn v0 v1 h1
  have e:=vj h hm hk hn s v0 v1 h1
  refine⟨g,i,?_,?_⟩
  · rw[← e];exact b x d f h2
  · rw[← e];exact su b d f h3
theorem rV {M:List Bool}{G:List Int}(d:∀y:Int,0<=y->y<K.length->(ptP K π y).2∉G->In M y):∀{R:List Int}{v:Int}{z:Key},0<=v->v<K.length->RunP p m c G (ptP K π v) R z->∃u,Way w.next M v R u/\(0<=u/\u<K.length)/\ptP K π u=z
 | [],v,z,v0,v1,hr=>⟨v,rfl,⟨v0,v1⟩,(show z=ptP K π v from hr).symm⟩
 | j::R,v,z,v0,v1,⟨i0,i1,hg,hr⟩=>by
  obtain⟨a,b,q⟩:=od h.prod v0 v1 i0 (by omega)
  have hrl:=h.prod.rl
  obtain⟨row,f⟩:=cF (xs:=w.next) (i:=v) v0 (by omega)
  have g:=f
  rw[cz v0]at g
  obtain⟨o,_,_,_⟩:=h.prod.row _ row g
  obtain⟨x,hx⟩:=cF (xs:=row) (i:=j) i0 (by omega)
  have hE:Eg w.next v j x:=⟨row,f,hx⟩
  have e:=vj h hm hk hn s v0 v1 hE
  rw[hE.tab]at a b
  rw[← e]at hg hr
  obtain⟨u,k,l,n⟩:=rV d a b hr
  exact⟨u,⟨x,hE,d x a b hg,k⟩,l,n⟩
end
theorem uR {p:Sig}{m:Machine}{cs:List Clause}{n k:Nat}{D:Det}{K:List Key}{w:watch}(h:AK p m cs n k D K w){i:Nat}{l:Pair}(ab:w.pairs[i]? =some l){c:Clause}(hc:cs[i]? =some c):hitP w.next l≠[]↔Cnd p m c:=by
 have U:=h.hc
 unfold dJ at U
 rw[sh,List.all_eq_true]at U
 obtain⟨π,B⟩:=h.pr.sm h.ln U.2 i c hc
 obtain⟨S,ap,P⟩:=B.pair
 have aj:l=partP K S:=by
  rw[h.wk.pairs,List.getElem?_map,ap]at ab
  exact(Option.some.inj ab).symm
 have ah:∀y:Int,0<=y->y<K.length->0<=(keyAt K y).2/\(keyAt K y).2<D.Next.length:=λy q f=>(h.wk.kin _ (bQ (iY q f))).2.2
 have ag:∀y:Int,0<=y->y<K.length->(y∈l.Ask↔(ptP K π y).2∈(monPair c.Kind).Ask):=λy q f=>by
  obtain⟨a,b⟩:=ah y q f
  rw[aj]
  show y∈partN K S.Ask K.length↔_
  rw[mL _ _ _ (Nat.le_refl _),ov q f]
  exact(P _ a b).1
 have X:∀y:Int,0<=y->y<K.length->(In (mayM K.length l.Give) y↔(ptP K π y).2∉(monPair c.Kind).Give):=λy q f=>by
  obtain⟨a,b⟩:=ah y q f
  rw[rK,aj]
  show((0<=y/\y<K.length)/\y∉partN K S.Give K.length)↔_
  rw[mL _ _ _ (Nat.le_refl _),ov q f]
  exact⟨λT V=>T.2 ((P _ a b).2.2 V),λT=>⟨⟨q,f⟩,λV=>T ((P _ a b).2.1 V)⟩⟩
 have h0:(0:Int)<K.length:=by
  have:=(bK.1 h.wk.prod.zero).1
  omega
 have ai:ptP K π 0=(0,0):=by
  have av:keyAt K 0=(0,0):=by
   unfold keyAt
   rw[show(0:Int).toNat=0 from rfl,h.wk.prod.zero];rfl
  unfold ptP
  rw[av]
  show((0:Int),π 0)=(0,0)
  rw[B.zero]
 have g:=h.gn
 have aN:=g.ln
 have ar:=h.ps.2.2 l (bQ ab)
 have af:∀v:Int,0<=v->v<K.length->In (mayM K.length []) v:=λv aJ an=>(rK v).2 ⟨⟨aJ,an⟩,by simp⟩
 constructor
 · intro Y
   obtain⟨s,t,aD⟩:=List.exists_cons_of_ne_nil Y
   have hsm:s∈hitP w.next l:=by rw[aD];simp
   obtain⟨F,aB⟩:=(nI g s).1 hsm
   obtain⟨ad,am⟩:=ar.rng s F
   obtain⟨aG,aC⟩:=cY ad
   obtain⟨R,ae⟩:=xv h.wk af aG (by omega)
   rw[← aC]at ae
   obtain⟨y,f,O⟩:=aB
   obtain⟨aq,ax⟩:=O.lv
   obtain⟨Q,H,A⟩:=Lv.way (show Lv (scN w.next (mayM K.length l.Give)) s (aq+1) s from⟨y,f,ax⟩)
   have E:=su h.wk h.hm h.kn h.ln B (M:=mayM K.length []) (G:=[]) (λy _ _ _ hy=>by cases hy) (Int.le_refl _) h0 ae
   have ac:=su h.wk h.hm h.kn h.ln B (λy q f hy=>(X y q f).1 hy) ad am A
   rw[ai]at E
   exact⟨_,R,Q,E,(ag s ad am).1 F,λe=>by rw[e]at H;simp at H,ac⟩
 · rintro⟨z,R,Q,E,ac,ak,al⟩
   rw[← ai]at E
   obtain⟨v,an,ao,aK⟩:=rV h.wk h.hm h.kn h.ln B (M:=mayM K.length []) (G:=[]) (λy q f _=>af y q f) (Int.le_refl _) h0 E
   have Z:∀x:Int,0<=x/\x<K.length/\ptP K π x=z->∃y:Int,Way w.next (mayM K.length l.Give) x Q y/\(0<=y/\y<K.length/\ptP K π y=z):=λx ⟨J,L,N⟩=>by
    obtain⟨y,f,O,aL⟩:=rV h.wk h.hm h.kn h.ln B (M:=mayM K.length l.Give) (λy q f hy=>(X y q f).2 hy) J L (by rw[N];exact al)
    exact⟨y,f,O.1,O.2,aL⟩
   classical
   let r:Int->Int:=λx=>if hx:0<=x/\x<K.length/\ptP K π x=z then(Z x hx).choose else x
   have aa:∀x:Int,0<=x/\x<K.length/\ptP K π x=z->Way w.next (mayM K.length l.Give) x Q (r x)/\(0<=r x/\r x<K.length/\ptP K π (r x)=z):=λx hx=>by
    have:r x=(Z x hx).choose:=dif_pos hx
    rw[this]
    exact(Z x hx).choose_spec
   let o:Nat->Int:=λj=>Nat.rec v (λ_ x=>r x) j
   have hf:∀j,0<=o j/\o j<K.length/\ptP K π (o j)=z:=λj=>by
    induction j with
    | zero=>exact⟨ao.1,ao.2,aK⟩
    | succ j C=>exact(aa (o j) C).2
   obtain⟨a,b,aM,ay⟩:=pigeon (n:=K.length) (f:=o) λj=>⟨(hf j).1,(hf j).2.1⟩
   have aE:∀d:Nat,∃W:List Int,W≠[]/\Way w.next (mayM K.length l.Give) (o a) W (o (a+d+1)):=λd=>by
    induction d with
    | zero=>exact⟨Q,ak,(aa (o a) (hf a)).1⟩
    | succ d C=>
     obtain⟨W,w1,I⟩:=C
     refine⟨W++Q,by simp[w1],I.append (aa (o (a+d+1)) (hf (a+d+1))).1⟩
   obtain⟨W,w1,I⟩:=aE (b-a-1)
   rw[show a+(b-a-1)+1=b from by omega,← ay]at I
   obtain⟨J,L,N⟩:=hf a
   have aF:z.2∉(monPair c.Kind).Give:=by
    have az:∀{Q:List Int} {u v:Key},Q≠[]->RunP p m c (monPair c.Kind).Give u Q v->v.2∉(monPair c.Kind).Give:=λ{Q}=>by
     induction Q with
     | nil=>intro u v Y;exact absurd rfl Y
     | cons j Q C=>
      intro u v _ ⟨_,_,H,A⟩
      by_cases e:Q=[]
      · subst e
        have A:v=_:=A
        rw[A];exact H
      · exact C e A
    exact az ak al
   have hM:In (mayM K.length l.Give) (o a):=(X _ J L).2 (by rw[N];exact aF)
   have F:o a∈l.Ask:=(ag _ J L).2 (by rw[N];exact ac)
   have hL:=Way.lv hM I
   obtain⟨j,W',aw⟩:=List.exists_cons_of_ne_nil w1
   rw[aw]at hL
   obtain⟨u,aH,aI⟩:=hL
   have au:Far (scN w.next (mayM K.length l.Give)) (o a):=⟨u,aH,aI.wy⟩
   have aA:o a∈hitP w.next l:=(nI g (o a)).2 ⟨F,au⟩
   exact List.ne_nil_of_mem aA
theorem xF {p:Sig}{m:Machine}{cs:List Clause}{n k:Nat}{D:Det}{K:List Key}{w:watch}(h:AK p m cs n k D K w) (z:Int):z∈brkN w.next w.pairs w.pairs.length↔∃(i:Nat) (c:Clause),z=(i:Int)/\cs[i]? =some c/\Cnd p m c:=by
 have e:=h.ps.1
 rw[sD]
 constructor
 · rintro⟨i,h1,h2,f,a,b⟩
   have hc:cs[i]? =some (cs[i]'(by omega)):=bJ (by omega)
   exact⟨i,_,h2,hc,(uR h a hc).1 b⟩
 · rintro⟨i,c,h1,h2,a⟩
   have d:=(bK.1 h2).1
   have hp:w.pairs[i]? =some (w.pairs[i]'(by omega)):=bJ (by omega)
   exact⟨i,by omega,h1,_,hp,(uR h hp h2).2 a⟩
end Go.Proofs.YtleekpaohfpooaaGreat
set_option linter.unusedVariables false
set_option linter.unusedSimpArgs false
namespace Go.Proofs.YtleekpaohfpooaaGreat
open Go Go.Wk Go.Proofs
section
variable {p:Sig}{m:Machine}{c:Clause}
def kst (p:Sig) (m:Machine) (c:Clause) (I:Nat->Int) (t:Nat):Key:=(runM m I t,mrun c (letM p m I) t)
theorem RunP.segm {G:List Int}{I:Nat->Int}(hI:∀t,0<=I t/\I t<pw p.In):∀(n t:Nat),(∀s,t<s->s<=t+n->mrun c (letM p m I) s∉G)->RunP p m c G (kst p m c I t) (seg I t n) (kst p m c I (t+n))
 | 0,t,_=>rfl
 | n+1,t,h=>by
  refine⟨(hI t).1,(hI t).2,h (t+1) (by omega) (by omega),?_⟩
  have:=RunP.segm (G:=G) hI n (t+1) λs h1 h2=>h s (by omega) (by omega)
  rw[show t+1+n=t+(n+1) by omega]at this
  exact this
theorem RunP.rng {G:List Int}:∀{R:List Int}{v u:Key},RunP p m c G v R u->∀x∈R,0<=x/\x<pw p.In
 | [],_,_,_,x,hx=>by cases hx
 | i::R,v,u,⟨h0,h1,_,h⟩,x,hx=>by
  rcases List.mem_cons.1 hx with e | hx
  · rw[e];exact⟨h0,h1⟩
  · exact RunP.rng h x hx
theorem RunP.st {G:List Int}{I:Nat->Int}:∀{n t:Nat}{u:Key},RunP p m c G (kst p m c I t) (seg I t n) u->u=kst p m c I (t+n)/\∀i,i<n->mrun c (letM p m I) (t+i+1)∉G
 | 0,t,u,h=>⟨h,λi d=>absurd d (Nat.not_lt_zero i)⟩
 | n+1,t,u,⟨_,_,h1,h2⟩=>by
  obtain⟨a,b⟩:=RunP.st (t:=t+1) h2
  refine⟨by rw[a,show t+1+n=t+(n+1) by omega],λi d=>?_⟩
  cases i with
  | zero=>exact h1
  | succ i=>
   have:=b i (by omega)
   rwa [show t+1+i+1=t+(i+1)+1 by omega]at this
theorem RunP.stv {G:List Int}{I:Nat->Int}{n t:Nat}{v u:Key}{Q:List Int}(h:RunP p m c G v Q u) (b:v=kst p m c I t) (a:Q=seg I t n):u=kst p m c I (t+n)/\∀i,i<n->mrun c (letM p m I) (t+i+1)∉G:=by
 subst b a
 exact h.st
theorem uM (hm:machOk p m=true) (k1:1<=c.Kind) (k7:c.Kind<=7):Cnd p m c↔∃I:Nat->Int,(∀t,0<=I t/\I t<pw p.In)/\¬Sat c (letM p m I):=by
 constructor
 · rintro⟨v,R,Q,h1,h2,A,d⟩
   have g:0<(⟨R,Q⟩:Word).Loop.length:=List.length_pos_iff.2 A
   have hI:∀t,0<=ltW ⟨R,Q⟩ t/\ltW ⟨R,Q⟩ t<pw p.In:=λt=>by
    rcases Ad.1 (xU g t) with h | h
    · exact h1.rng _ h
    · exact d.rng _ h
   have C:R=seg (ltW ⟨R,Q⟩) 0 R.length:=vp λi x o=>by
    rw[Nat.zero_add]
    exact y5 g (by rw[List.getElem?_append_left (bK.1 o).1];exact o)
   have k:∀j,Q=seg (ltW ⟨R,Q⟩) (R.length+j * Q.length) Q.length:=wL g
   have y:kst p m c (ltW ⟨R,Q⟩) 0=(0,0):=rfl
   have a1:=(h1.stv y.symm C).1
   rw[Nat.zero_add]at a1
   have n:∀j,v=kst p m c (ltW ⟨R,Q⟩) (R.length+j * Q.length)/\∀i,i<Q.length->mrun c (letM p m (ltW ⟨R,Q⟩)) (R.length+j * Q.length+i+1)∉(monPair c.Kind).Give:=λj=>by
    induction j with
    | zero=>exact⟨by rw[Nat.zero_mul,Nat.add_zero];exact a1,(d.stv (by rw[Nat.zero_mul,Nat.add_zero];exact a1) (k 0)).2⟩
    | succ j F=>
     have e:=(d.stv F.1 (k j)).1
     rw[Nat.add_assoc,← Nat.succ_mul]at e
     exact⟨e,(d.stv e (k (j+1))).2⟩
   refine⟨ltW ⟨R,Q⟩,hI,λhs=>?_⟩
   obtain⟨t,a,b⟩:=(pa k1 k7).1 hs (λN=>⟨R.length+N * Q.length,by have:=Nat.mul_le_mul_left N g;dsimp only at this;omega,by have:=(n N).1;rw[this]at h2;exact h2⟩) (R.length+1)
   have hd:=Nat.mod_add_div (t-R.length-1) Q.length
   have E:=Nat.mod_lt (t-R.length-1) g
   have:=(n ((t-R.length-1) / Q.length)).2 ((t-R.length-1) % Q.length) E
   rw[Nat.mul_comm]at hd
   rw[show R.length+(t-R.length-1) / Q.length * Q.length+(t-R.length-1) % Q.length+1=t by omega]at this
   exact this b
 · rintro⟨I,hI,hn⟩
   rw[pa k1 k7]at hn
   obtain⟨ha,D⟩:=Classical.not_imp.1 hn
   obtain⟨N,B⟩:=Classical.not_forall.1 D
   have hr:=rU hm hI
   have l:=oY (L:=letM p m I) k1 k7
   have d:monStates c.Kind<=4:=by unfold monStates;(repeat' split) <;> omega
   have P:=(cB hm).2.1
   obtain⟨z,q⟩:=Par.Io.val (f:=λt=>runM m I t * 4+mrun c (letM p m I) t) 192 (S:=λt=>N<=t/\mrun c (letM p m I) t∈(monPair c.Kind).Ask) (λM=>by
    obtain⟨t,a,b⟩:=ha (max M N)
    exact⟨t,by omega,by omega,b⟩) (λt _=>by
    have:=hr t
    have:=l t
    omega)
   obtain⟨a,_,⟨H,w⟩,J⟩:=q 0
   obtain⟨b,K,_,O⟩:=q (a+1)
   have e:kst p m c I b=kst p m c I a:=by
    have:=l a
    have:=l b
    exact Prod.ext (by show runM m I b=runM m I a;omega) (by show mrun c (letM p m I) b=mrun c (letM p m I) a;omega)
   have r:=RunP.segm (p:=p) (m:=m) (c:=c) (G:=[]) hI a 0 λ_ _ _ h=>by cases h
   have u:=RunP.segm (p:=p) (m:=m) (c:=c) (G:=(monPair c.Kind).Give) hI (b-a) a λs h1 _ h=>B ⟨s,by omega,h⟩
   rw[show a+(b-a)=b by omega,e]at u
   rw[Nat.zero_add]at r
   refine⟨kst p m c I a,_,_,r,w,λh=>?_,u⟩
   have:=congrArg List.length h
   rw[sn,Aa]at this
   omega
end
end Go.Proofs.YtleekpaohfpooaaGreat
