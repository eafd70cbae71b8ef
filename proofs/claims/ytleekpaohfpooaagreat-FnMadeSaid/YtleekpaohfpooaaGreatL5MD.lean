/- The least machine plays as the machine does. -/
import Derived.Test.YtleekpaohfpooaaGreatL4MD
import Derived.Test.YtleekpaohfpooaaGreatL0MD
import Derived.Test.YtleekpaohfpooaaGreatL3MD
set_option linter.unusedVariables false
set_option linter.unusedSimpArgs false
open Int renaming tmod_eq_emod_of_nonneg → EH
open Go.IntKind renaming bits → Dz, u64 → DB, wrap → Dr
open List renaming getD_eq_getElem?_getD → bR, mem_singleton → CC
open Option renaming bind → Dl, bind_some → D3, getD_some → EC
namespace Go.Proofs.YtleekpaohfpooaaGreat
open Go Go.Wk Go.Proofs
structure LeastBy (p:Sig) (m r:Machine):Prop where
 ok:machOk p r=true
 lets:∀I:Nat->Int,(∀t,0<=I t/\I t<pw p.In)->letM p r I=letM p m I
 cls:∃f:Int->Int,∀(D:Det) (k:Nat) (v:Key),pw p.In=(k:Int)->RchW (kyW r D (pw p.In)) k v->∃u,RchW (kyW m D (pw p.In)) k u/\v=(f u.1,u.2)
theorem Ar {p:Sig}(G:sigOk p=true){m:Machine}(i:machOk p m=true):∃c,la p m=some c/\LeastBy p m c:=by
 have F:=Mok.of i
 obtain⟨ai,aj,ak,al,am⟩:=dm i
 obtain⟨e,ac,M,r,n,C,ad⟩:=wR F
 obtain⟨N,c,O,o⟩:=AA F r n (Bh n C)
 have S:idx e 0=some 0:=by
  rw[kb (by omega) (by omega)]
  have:=r 0 (by omega)
  simp only[Int.natCast_zero]at this
  rw[show atL e 0=0 from by omega]
 have V:la p m=some c:=by
  unfold la
  rw[lG,lC G,G,i,M]
  simp only[D3,Bool.not_true,cond_false,S]
  exact O
 have H:∀{T:VV} {a:Nat} {x d:Int} {B:VI},idx T (a:Int)=some B->idx B x=some d->tab T (a:Int) x=d:=λ{T a x d B} E v=>by
  unfold tab
  rw[bT]at E
  rw[cH (eu v).1]at v
  rw[bR,bR,Int.toNat_natCast,E,EC,v,EC]
 have y:∀{a:Nat} {l x:Int},Rel m.Next.length e N a l->0<=x->x<pw p.In->tab c.Out (a:Int) x=tab m.Out l x/\∃f:Nat,tab c.Next (a:Int) x=(f:Int)/\Rel m.Next.length e N f (tab m.Next l x):=λ{a l x} g aa ab=>by
  obtain⟨ao,an,L,f,k,q,ae,af,P,ag,Q,R,_⟩:=AS i n C o g aa ab
  exact⟨H q Q,f,H k P,R⟩
 refine⟨c,V,zi i o,λI s=>?_,λl=>db N (atL e l),λD Y j ah K=>?_⟩
 .have W:∀b,∃a:Nat,runM c I b=(a:Int)/\Rel m.Next.length e N a (runM m I b):=λb=>by
   induction b with
   |zero=>exact⟨0,rfl,rel0 i r n o⟩
   |succ b A=>
    obtain⟨a,t,g⟩:=A
    obtain⟨_,f,u,w⟩:=y g (s b).1 (s b).2
    refine⟨f,?_,w⟩
    show tab c.Next (runM c I b) (I b)=_
    rw[t,u]
  funext b
  obtain⟨a,t,g⟩:=W b
  show tab c.Out (runM c I b) (I b) * _+_=tab m.Out (runM m I b) (I b) * _+_
  rw[t,(y g (s b).1 (s b).2).1]
 .have Z:∃(d:Key) (a:Nat),RchW (kyW m D (pw p.In)) Y d/\j.1=(a:Int)/\j.2=d.2/\Rel m.Next.length e N a d.1:=by
   induction K with
   |zero=>exact⟨(0,0),0,.zero,rfl,rfl,rel0 i r n o⟩
   | @step j x K X A=>
    obtain⟨d,a,z,k,q,g⟩:=A
    obtain⟨L,f,u,w⟩:=y g (Int.natCast_nonneg x) (by omega:(x:Int)<pw p.In)
    refine⟨_,f,.step z X,?_,?_,w⟩
    .show tab c.Next j.1 (x:Int)=_
     rw[k,u]
    .show tab D.Next j.2 (tab c.Out j.1 (x:Int) * pw p.In+(x:Int))=tab D.Next d.2 (tab m.Out d.1 (x:Int) * pw p.In+(x:Int))
     rw[k,q,L]
  obtain⟨d,a,z,k,q,_,_,U⟩:=Z
  refine⟨d,z,Prod.ext ?_ q⟩
  show j.1=db N (atL e d.1)
  rw[k,n9 o.names.1 U]
theorem LeastBy.few {p:Sig}{q:VC}{m r:Machine}(h:LeastBy p m r) (s:MadeBy p q m){D:Det}{k:Nat}(t:cO p q=some (D,true)) (o:pw p.In=(k:Int)):¬ManyK r D (pw p.In) k:=by
 obtain⟨n,z⟩:=h.cls
 rintro⟨l,K,G,_,H⟩
 have E:∀c∈l,∃x:Int,0<=x/\x<32/\∃a,RchW (kyW m D (pw p.In)) k a/\c=(n a.1,a.2)/\a.1=x:=λc i=>by
  obtain⟨a,j,e⟩:=z D k c o (H c i)
  obtain⟨d,b,_⟩:=s.inj t o j
  exact⟨a.1,d,b,a,j,e,rfl⟩
 have g:∃f:Key->Int,∀c∈l,0<=f c/\f c<32/\∃a,RchW (kyW m D (pw p.In)) k a/\c=(n a.1,a.2)/\a.1=f c:=⟨λc=>(Classical.epsilon λx:Int=>0<=x/\x<32/\∃a,RchW (kyW m D (pw p.In)) k a/\c=(n a.1,a.2)/\a.1=x),λc i=>Classical.epsilon_spec (E c i)⟩
 obtain⟨f,g⟩:=g
 have A:(l.map f).Nodup:=by
  unfold List.Nodup
  rw[List.pairwise_map]
  refine List.Pairwise.imp_of_mem (λ{d b} ha hb B e=>B ?_) G
  obtain⟨_,_,a,j,u,v⟩:=g d ha
  obtain⟨_,_,I,C,w,y⟩:=g b hb
  have:=(s.inj t o j).2.2 I C (by rw[v,y];exact e)
  rw[u,w,this]
 have:=dx 32 _ A λx F=>by
  obtain⟨c,i,e⟩:=List.mem_map.1 F
  obtain⟨d,b,_⟩:=g c i
  rw[← e]
  exact⟨d,b⟩
 rw[List.length_map]at this
 omega
theorem Cp {z:Int}(a:0<=z) (b:z<18446744073709551616):Dr .u64 z=z:=by
 simp[Dr,Dz,IntKind.signed]
 omega
theorem pD {d:dice}(hb:∀x∈d.b,U8 x) (hl:d.b.length<=4096) (l:0<=d.i) (n:d.i<=4096){k:Int}(m:1<=k):∃x b h,eF d k=some (x,b,h)/\0<=x/\x<k/\0<=b/\b<=4096:=by
 unfold eF
 have c:nz k=some ():=by unfold nz;rw[if_neg (by omega)]
 generalize hA:(BitVec.ofInt (Dz DB) (Int.fdiv (Dr .u64 (Dr .u64 (d.h * 6364136223846793005)+1442695040888963407)) (2 ^ (min (Int.toNat 33) (Dz DB)))))=A
 have j:(BitVec.toNat (A &&& BitVec.ofInt (Dz DB) 16777215))<=16777215:=by
  rw[BitVec.toNat_and]
  refine Nat.le_trans Nat.and_le_right ?_
  decide
 generalize(BitVec.toNat (A &&& BitVec.ofInt (Dz DB) 16777215))=e at j
 rw[Cp (by omega) (by omega),wr' (z:=(e:Int)) (by omega) (by omega)]
 by_cases a:d.i<(d.b.length:Int)
 .obtain⟨x,g,f⟩:=iX (xs:=d.b) l a
  have i:=hb x f
  unfold U8 at i
  simp only[a,decide_true,cond_true,g,D3,c]
  rw[wr' (z:=x) (by omega) (by omega),wr' (z:=(e:Int)+x) (by omega) (by omega),wr' (by omega) (by omega),EH (by omega)]
  exact⟨_,_,_,rfl,Int.emod_nonneg _ (by omega),Int.emod_lt_of_pos _ (by omega),by omega,by omega⟩
 .simp only[a,decide_false,cond_false,D3,c]
  rw[EH (by omega)]
  exact⟨_,_,_,rfl,Int.emod_nonneg _ (by omega),Int.emod_lt_of_pos _ (by omega),by omega,by omega⟩
theorem A1 (b:VI) (k:Int):∃h,r6 b k=some ⟨b,0,h⟩:=by
 unfold r6
 obtain⟨a,d,_⟩:=ch (f:=mR b) (λ_ _=>True) b.length (s:=(Dr .u64 ((Dr .u64 (k * 7919))+(Dr .u64 (b.length:Int))))) trivial (λc a e _=>by
  have g:b[c]? =some b[c]:=by simp[e]
  unfold mR
  rw[bT,g]
  exact⟨_,rfl,trivial⟩)
 rw[d]
 exact⟨a,rfl⟩
theorem St.up {q:Nat}{A:VI}(h:St q A):St (q+1) A:=⟨h.asc,λx a=>by have:=h.rng x a;omega⟩
theorem St.push {q:Nat}{A:VI}(h:St q A):St (q+1) (A++[(q:Int)]):=⟨List.pairwise_append.2 ⟨h.asc,by simp,λc ha b hb=>by
 rw[CC]at hb
 have:=h.rng c ha
 omega⟩,λx a=>by
 rcases List.mem_append.1 a with a|a
 .have:=h.rng x a;omega
 .rw[CC.1 a];omega⟩
section
variable {b:VI}(hb:∀x∈b,U8 x) (hl:b.length<=4096)
include hb hl
theorem vv {i h:Int}(aq:0<=i) (ar:i<=4096):∃r o y,kr ⟨b,i,h⟩ 2=some (r,o,y)/\(∀e∈r,e.A.length<=4/\e.B.length<=4/\cZ ⟨1,1⟩ e=true)/\r.length<=2/\0<=o/\o<=4096:=by
 obtain⟨x,au,af,O,aG,aH,P,Q⟩:=pD (d:=⟨b,i,h⟩) hb hl aq ar (k:=3) (by omega)
 obtain⟨ay,aD,m⟩:=cM (f:=gU ⟨b,i,h⟩) (λt (c:VC×Int×Int×Int)=>c.2.1=x-(t:Int)/\(t:Int)<=x/\0<=c.2.2.1/\c.2.2.1<=4096/\c.1.length=t/\∀e∈c.1,e.A.length<=4/\e.B.length<=4/\cZ ⟨1,1⟩ e=true) (λ_=>False) (λc=>(∀e∈c.1,e.A.length<=4/\e.B.length<=4/\cZ ⟨1,1⟩ e=true)/\c.1.length<=2/\0<=c.2.2.1/\c.2.2.1<=4096) 3 (λt c ⟨R,aI,u,v,C,w⟩=>by
  obtain⟨r,p,o,y⟩:=c
  dsimp only at R u v C w
  unfold gU
  dsimp only
  by_cases K:0<p
  .obtain⟨a,L,I,S,aJ,aK,T,U⟩:=pD (d:=⟨b,o,y⟩) hb hl u v (k:=7) (by omega)
   obtain⟨k,V,W,X,D,E,Y⟩:=ch (f:=gV ⟨b,i,h⟩ (a,L,I)) (λj (k:Int×Int×VI×VI)=>0<=k.1/\k.1<=4096/\St j k.2.2.1/\St j k.2.2.2/\(k.2.2.2=[]\/1+a=2\/1+a=3\/1+a=7)) 4 (s:=(L,I,[],[])) ⟨T,U,⟨List.Pairwise.nil,by simp⟩,⟨List.Pairwise.nil,by simp⟩,.inl rfl⟩ (λj k aS ⟨F,G,s,l,H⟩=>by
    obtain⟨aC,aB,A,B⟩:=k
    dsimp only at F G s l H
    have aR:=s.len
    have aQ:=l.len
    have z:Dr .i64 (1+a)=1+a:=wr' (by omega) (by omega)
    obtain⟨M,av,ag,Z,aL,aM,aa,ab⟩:=pD (d:=⟨b,aC,aB⟩) hb hl F G (k:=2) (by omega)
    obtain⟨N,aT,aP,ac,aN,aO,ad,ae⟩:=pD (d:=⟨b,av,ag⟩) hb hl aa ab (k:=2) (by omega)
    unfold gV
    dsimp only
    rw[Z,D3]
    obtain⟨A',ah,ai⟩:∃A',(bif (M==0) then Dl (appS 8 A [(j:Int)]) λaE=>some aE else some A)=some A'/\St (j+1) A':=by
     cases M==0 with
     |true=>exact⟨A++[(j:Int)],by rw[cond_true,app1 (by omega) rfl];rfl,s.push⟩
     |false=>exact⟨A,rfl,s.up⟩
    rw[ah,D3,ac,D3]
    have am:∃q,(bif (N==0) then Dl (bif (Dr .i64 (1+a)==2) then some true else some (Dr .i64 (1+a)==3)) λaz=>Dl (bif az then some true else some (Dr .i64 (1+a)==7)) λaA=>some aA else some false)=some q/\(q=true->1+a=2\/1+a=3\/1+a=7):=by
     rw[z]
     cases N==0 with
     |false=>exact⟨_,rfl,λg=>by cases g⟩
     |true=>
      cases aw:(1+a==2) with
      |true=>exact⟨_,rfl,λ_=> .inl (by simpa using aw)⟩
      |false=>
       cases ax:(1+a==3) with
       |true=>exact⟨_,rfl,λ_=> .inr (.inl (by simpa using ax))⟩
       |false=>exact⟨_,rfl,λg=> .inr (.inr (by simpa using g))⟩
    obtain⟨q,ao,ap⟩:=am
    rw[ao,D3]
    obtain⟨B',aj,ak,al⟩:∃B',(bif q then Dl (appS 8 B [(j:Int)]) λaF=>some aF else some B)=some B'/\St (j+1) B'/\(B'=[]\/1+a=2\/1+a=3\/1+a=7):=by
     cases q with
     |true=>exact⟨B++[(j:Int)],by rw[cond_true,app1 (by omega) rfl];rfl,l.push,.inr (ap rfl)⟩
     |false=>exact⟨B,rfl,l.up,H⟩
    rw[aj,D3]
    exact⟨_,rfl,ad,ae,ai,ak,al⟩)
   rw[decide_eq_true K,cond_true,S,D3]
   have l:Int.toNat (4-0)=4:=rfl
   rw[l,V,D3,bU,app1 (by omega) rfl,D3]
   refine⟨_,rfl,by omega,by dsimp only;rw[wr' (by omega) (by omega)];omega,by omega,W,X,by dsimp only;simp[C],λe n=>?_⟩
   rcases List.mem_append.1 n with n|n
   .exact w e n
   .rw[CC.1 n]
    have z:Dr .i64 (1+a)=1+a:=wr' (by omega) (by omega)
    have an:ltr (⟨1,1⟩:Sig)=4:=by decide
    refine⟨D.len,E.len,?_⟩
    unfold cZ
    dsimp only
    rw[z,an,decide_eq_true (by omega),decide_eq_true (by omega),D.ok (by omega),E.ok (by omega)]
    rcases Y with g|g|g|g
    .rw[g];simp
    .rw[g];rfl
    .rw[g];rfl
    .rw[g];rfl
  .rw[decide_eq_false K,cond_false]
   exact⟨_,rfl,w,by dsimp only;omega,u,v⟩) (2 ^ 64) 0 ([],x,au,af) (by omega) ⟨by dsimp only;omega,by omega,P,Q,rfl,by simp⟩ (by omega)
 unfold kr
 rw[wr' (by omega) (by omega),show(2:Int)+1=3 from rfl,O,D3]
 dsimp only
 match ay,m with
 |.inr c,m=>
  rw[aD,D3,bU]
  exact⟨_,_,_,rfl,m.1,m.2.1,m.2.2.1,m.2.2.2⟩
end
theorem FnMade_law {p0:VI}(V:okS U8 p0):pX p0=some true:=by
 unfold pX xR
 rw[D3]
 by_cases y:4096<(p0.length:Int)
 .rw[decide_eq_true y,cond_true]
 .rw[decide_eq_false y,cond_false]
  have hb:=V.1
  have hl:p0.length<=4096:=by omega
  have m:sigOk ⟨1,1⟩=true:=by decide
  obtain⟨h,R⟩:=A1 p0 928
  rw[R,D3]
  obtain⟨c,ac,ab,E,w,p,Z,aa⟩:=vv hb hl (i:=0) (h:=h) (by omega) (by omega)
  rw[E,D3]
  dsimp only
  have u:∀a∈c,Clause.bd a:=λa g=>by
   obtain⟨x,ah,_⟩:=w a g
   exact⟨trivial,⟨by omega,λ_ _=>trivial⟩,⟨by omega,λ_ _=>trivial⟩⟩
  have l:∀a∈c,cZ ⟨1,1⟩ a=true:=λa g=>(w a g).2.2
  obtain⟨b,F,_,e⟩:=vE m u l p
  rw[F]
  rcases e with ⟨q,e⟩|⟨q,M,e,s⟩
  .subst q
   rw[e];rfl
  .subst q
   have j:=s.good l
   have C:∀{d:VI} {M:Machine},(∀o,o∈d↔∃(n:Nat) (a:Clause),o=(n:Int)/\c[n]? =some a/\∃I:Nat->Int,(∀i,0<=I i/\I i<pw (⟨1,1⟩:Sig).In)/\¬Sat a (letM ⟨1,1⟩ M I))->(∀I:Nat->Int,(∀i,0<=I i/\I i<pw (⟨1,1⟩:Sig).In)->∀a∈c,Sat a (letM ⟨1,1⟩ M I))->d=[]:=λ{d M} f O=>by
    cases d with
    |nil=>rfl
    |cons o d=>
     obtain⟨n,a,_,P,I,k,Q⟩:=(f o).1 (List.mem_cons_self ..)
     exact absurd (O I k a (List.mem_of_getElem? P)) Q
   obtain⟨B,z,D,Y,af,K,A,_,T⟩:=xG m u l p j.ok λB z D _ t v=>s.few t v
   have G:=C T j.sat
   have L:lT ⟨1,1⟩ M c=some true:=by
    unfold lT
    rw[A,D3,cond_true,wM ⟨1,1⟩ M K A,G];rfl
   obtain⟨W,X,f⟩:=Ar m j.ok
   obtain⟨ae,ad,D',K',ag,r,_,S,U⟩:=xG m u l p f.ok λB z D _ t v=>f.few s t v
   have H:=C U λI k a g=>by rw[f.lets I k];exact j.sat I k a g
   have N:lu ⟨1,1⟩ W c=some true:=by
    unfold lu
    rw[S]
    simp only[D3,cond_true,EC,Option.isSome_some,guardS,if_true]
    rw[yr r.gn r.ps.2.2 r.ps.2.1 rfl rfl,H];rfl
   rw[e]
   simp only[D3,Bool.not_true,cond_false,cond_true,L,X,N]
end Go.Proofs.YtleekpaohfpooaaGreat
