/- The machine of a contest: on all inputs, its letters satisfy all clauses. Plain law. -/
import Derived.Test.YtleekpaohfpooaaGreatL2VF
import Derived.Test.YtleekpaohfpooaaGreatL0VF
import Derived.Test.YtleekpaohfpooaaGreatL1VF
import Derived.Test.YtleekpaohfpooaaGreatCmpVF
set_option linter.unusedVariables false
set_option linter.unusedSimpArgs false
open Option renaming bind → bD, bind_some → bG
open List renaming getElem?_eq_getElem → bI, getElem?_eq_some_iff → bJ, replicate → bK, mem_of_getElem? → bL, length_append → zF, mem_singleton → zG, length_cons → zI, length_nil → zK, mem_append → zN, take_add_one → zO, length_map → zQ
open Bool renaming and_eq_true → n6, not_true → sh
open Int renaming toNat_natCast → zH
namespace Go.Proofs.YtleekpaohfpooaaGreat
open Go Go.Wk Go.Proofs
theorem tB {d:Det}{m k q i:Nat}{z o:Int}(h:idx (outsL d m k q i z) 0=some o):0<=o/\tab d.Next q (o * m+i)=z:=by
 obtain⟨j,hj,e⟩:=List.mem_map.1 (bL ((bT (outsL d m k q i z) 0).symm.trans h))
 have h1:=(List.mem_filter.1 hj).2
 have e:(j:Int)=o:=e
 subst e
 have h1:=beq_iff_eq.1 h1
 refine⟨by omega,?_⟩
 rw[← h1]
 simp
theorem tz (f:Nat->Int) (F:List Int){i:Nat}:∀{j:Nat},i<j->∃u:Int,(dL f F j).2[i]? =some u/\0<=u/\(dL f F j).1[u.toNat]? =some (f i)
 | j+1,hi=>by
  have hl:=(nB f F j).2.2
  show ∃u:Int,((dL f F j).2++[gi (addN (dL f F j).1 (f j)) (f j)])[i]? =some u/\0<=u/\(addN (dL f F j).1 (f j))[u.toNat]? =some (f i)
  by_cases e:i=j
  · subst e
    obtain⟨u,b,c,a⟩:=oF (sU (F:=(dL f F i).1) (t:=f i))
    refine⟨_,by rw[List.getElem?_append_right (by omega),hl,Nat.sub_self];rfl,by rw[b];omega,by rw[b,zH];exact a⟩
  · obtain⟨u,b,c,a⟩:=tz f F (show i<j by omega)
    refine⟨u,by rw[List.getElem?_append_left (by omega)];exact b,c,?_⟩
    unfold addN
    split
    · exact a
    · rw[List.getElem?_append_left (bJ.1 a).1];exact a
section
variable {p:Sig}{d:Det}{n m k:Nat}{A:Arena}{P:List Place}{g:Parity}{W:Int->Prop}{pk:List Int}
theorem r7:∀j:Nat,(∀i,i<j->i<(itM d n m k P g pk i).1.length)->(itM d n m k P g pk j).2.1.length=j/\(itM d n m k P g pk j).2.2.length=j/\∀z,z<j->∃x row b,(itM d n m k P g pk j).1[z]? =some x/\(itM d n m k P g pk j).2.1[z]? =some row/\(itM d n m k P g pk j).2.2[z]? =some b /\
 ∀i,i<m->(∃u:Int,row[i]? =some u/\0<=u/\(itM d n m k P g pk j).1[u.toNat]? =some (fM pk P (fN g.Arena x) n m (atP P x).toNat i))/\b[i]? =some (oM d pk P (fN g.Arena x) n m k (atP P x).toNat i)
 | 0,_=>⟨rfl,rfl,λz o=>absurd o (Nat.not_lt_zero z)⟩
 | j+1,hj=>by
  obtain⟨h1,c,f⟩:=r7 j λi a=>hj i (by omega)
  have l:=hj j (by omega)
  unfold itM
  generalize itM d n m k P g pk j=s at *
  obtain⟨F,Nx,Ou⟩:=s
  dsimp only at h1 c f l ⊢
  have hx:F[j]? =some F[j]:=bI l
  have r:F.getD j 0=F[j]:=by rw[List.getD_eq_getElem?_getD,hx];rfl
  rw[r]
  generalize F[j]=x at hx
  refine⟨by rw[zF,h1];rfl,by rw[zF,c];rfl,λz o=>?_⟩
  by_cases e:z=j
  · subst e
    refine⟨x,_,_,lS _ _ hx m,by rw[List.getElem?_append_right (by omega),h1,Nat.sub_self];rfl,by rw[List.getElem?_append_right (by omega),c,Nat.sub_self];rfl,λi a=>⟨tz _ _ a,?_⟩⟩
    rw[List.getElem?_map,List.getElem?_range a];rfl
  · obtain⟨y,row,b,a1,a2,p,q⟩:=f z (by omega)
    refine⟨y,row,b,lS _ _ a1 m,by rw[List.getElem?_append_left (by omega)];exact a2,by rw[List.getElem?_append_left (by omega)];exact p,λi a=>?_⟩
    obtain⟨⟨u,t,v,w⟩,A⟩:=q i a
    exact⟨⟨u,t,v,lS _ _ w m⟩,A⟩
def xsM (n m:Nat) (P:List Place) (g:Parity) (pk:List Int) (I:Nat->Nat):Nat->Int
 | 0=>0
 | t+1=>fM pk P (fN g.Arena (xsM n m P g pk I t)) n m (atP P (xsM n m P g pk I t)).toNat (I t)
variable (h:Cx d n m k A P g W pk) (h0:wB W 0=false){I:Nat->Nat}(hI:∀t,I t<m)
include h h0 hI
theorem sR:∀t,∃v,idx P (xsM n m P g pk I t)=some v/\v.At<(n:Int)/\wB W (xsM n m P g pk I t)=false
 | 0=>by
  refine⟨⟨0,firstR d.Pairs.length⟩,?_,?_,h0⟩
  · show idx P ((0:Nat):Int)=_
    rw[bT];exact h.rg.game.zero
  · have:=h.n1
    show(0:Int)<_
    omega
 | t+1=>by
  obtain⟨v,b,k,l⟩:=sR t
  obtain⟨q,r,c,_,e,_,_,f⟩:=rb h b k l
  obtain⟨_,_,u,_,_,_,_,_,i,j,a,_⟩:=f (I t) (hI t)
  show ∃v,idx P (fM pk P (fN g.Arena _) n m (atP P _).toNat (I t))=some v/\_/\wB W (fM pk P (fN g.Arena _) n m (atP P _).toNat (I t))=false
  rw[hU e,eH b,c,zH]
  exact⟨u,i,by rw[j];exact a.2.2.2,a.2.2.1⟩
theorem xv (t:Nat):atP P (xsM n m P g pk I (t+1))=tab d.Next (atP P (xsM n m P g pk I t)) (oM d pk P (fN g.Arena (xsM n m P g pk I t)) n m k (atP P (xsM n m P g pk I t)).toNat (I t) * m+I t)/\0<=atP P (xsM n m P g pk I t)/\atP P (xsM n m P g pk I t)<n/\0<=oM d pk P (fN g.Arena (xsM n m P g pk I t)) n m k (atP P (xsM n m P g pk I t)).toNat (I t)/\oM d pk P (fN g.Arena (xsM n m P g pk I t)) n m k (atP P (xsM n m P g pk I t)).toNat (I t)<k:=by
 obtain⟨v,a,o,p⟩:=sR h h0 hI t
 obtain⟨q,r,b,s,c,_,_,e⟩:=rb h a o p
 obtain⟨_,_,u,_,_,_,_,_,w,j,_,l,f,i⟩:=e (I t) (hI t)
 show atP P (fM pk P (fN g.Arena _) n m (atP P _).toNat (I t))=_/\_
 rw[hU c,eH a,b,zH]
 exact⟨by rw[← j];exact(tB l).2.symm,by omega,by omega,f,i⟩
theorem xw (hc:∀a∈d.Pairs,(∀z∈a.Ask,z<(n:Int))/\∀z∈a.Give,z<(n:Int)){i:Nat}{a:Pair}(hp:d.Pairs[i]? =some a):Well a.Ask a.Give λt=>atP P (xsM n m P g pk I t):=by
 have k:∀t,∃y:Int,tgt P (fN g.Arena (xsM n m P g pk I t)) ((n+((atP P (xsM n m P g pk I t)).toNat * m+I t):Nat):Int)=y/\(n:Int)<=atP P y/\Par.Rg (Xn P.length) (wB W) false (xsM n m P g pk I t)/\(gI g).own (xsM n m P g pk I t)=true/\(gI g).E (xsM n m P g pk I t) y/\Par.Rg (Xn P.length) (wB W) false y/\(gI g).E y (xsM n m P g pk I (t+1))/\xsM n m P g pk I (t+1)=pkL pk y:=λt=>by
  obtain⟨v,c,Q,f⟩:=sR h h0 hI t
  have o:Xn P.length (xsM n m P g pk I t):=⟨(eI c).1,(eI c).2.1⟩
  obtain⟨p,q,r,F,J,j,K,H⟩:=h.state c Q
  obtain⟨l,E,_⟩:=uQ (H (I t) (hI t))
  show ∃y:Int,_/\_/\_/\_/\_/\_/\(gI g).E y (fM pk P (fN g.Arena _) n m (atP P _).toNat (I t))/\fM pk P (fN g.Arena _) n m (atP P _).toNat (I t)=pkL pk y
  rw[hU j,eH c,F,zH]
  have b:=(K _ l).1
  have u:=h.yours o (by rw[p,f];simp) ((om j).2 l) b
  obtain⟨O,_⟩:=h.mid b J (hI t) E
  obtain⟨to,M,_,L,_⟩:=h.mine b (by rw[O,u,f])
  refine⟨_,rfl,by rw[E];omega,⟨o,f⟩,p,(om j).2 l,⟨b,u.trans f⟩,?_,rfl⟩
  unfold fM
  rw[oX M];exact L
 have N:=h.even (q:=false) (π:=alt (xsM n m P g pk I) λt=>tgt P (fN g.Arena (xsM n m P g pk I t)) ((n+((atP P (xsM n m P g pk I t)).toNat * m+I t):Nat):Int)) (λt=>by
  rcases qW t with ⟨s,rfl⟩ | ⟨s,rfl⟩
  · obtain⟨y,k1,w,x,A,B,C,k7,D⟩:=k s
    rw[rL,mN,k1]
    exact⟨x,B,λe=>absurd (A.symm.trans e) (by decide)⟩
  · obtain⟨y,k1,w,x,A,B,C,k7,D⟩:=k s
    rw[show 2 * s+1+1=2 * (s+1) by omega,rL,mN,k1]
    exact⟨C,k7,λ_=>D⟩) (mN _ _ 0) rfl hp
 obtain⟨c1,c2⟩:=hc a (bL hp)
 have hy:∀(S:List Int),(∀z∈S,z<(n:Int))->∀t,atP P (tgt P (fN g.Arena (xsM n m P g pk I t)) ((n+((atP P (xsM n m P g pk I t)).toNat * m+I t):Nat):Int))∉S:=λS G t hm=>by
  obtain⟨y,k1,w,_⟩:=k t
  rw[k1]at hm
  have:=G _ hm
  omega
 exact(xt (hy _ c1) (hy _ c2)).1 N
end
section
variable {p:Sig}{d:Det}{n m k:Nat}{A:Arena}{P:List Place}{g:Parity}{W:Int->Prop}{pk:List Int}(h:Cx d n m k A P g W pk) (h0:wB W 0=false) (hm:pw p.In=(m:Int)) (hk:pw p.Out=(k:Int)){j:Nat}(hj:∀i,i<j->i<(itM d n m k P g pk i).1.length) (hjl:j=(itM d n m k P g pk j).1.length){I:Nat->Int}(hI:∀t,0<=I t/\I t<m)
include h h0 hm hj hjl hI
theorem zf (t:Nat):0<=runM ⟨(itM d n m k P g pk j).2.1,(itM d n m k P g pk j).2.2⟩ I t/\(itM d n m k P g pk j).1[(runM ⟨(itM d n m k P g pk j).2.1,(itM d n m k P g pk j).2.2⟩ I t).toNat]? =some (xsM n m P g pk (λt=>(I t).toNat) t) /\
 letM p ⟨(itM d n m k P g pk j).2.1,(itM d n m k P g pk j).2.2⟩ I t=oM d pk P (fN g.Arena (xsM n m P g pk (λt=>(I t).toNat) t)) n m k (atP P (xsM n m P g pk (λt=>(I t).toNat) t)).toNat (I t).toNat * m+(I t).toNat:=by
 obtain⟨E,F,l⟩:=r7 j hj
 have s:=g8 h h0 j hj
 have o:∀(T:List (List Int)) (z:Int) row (i u:Int),0<=z->0<=i->T[z.toNat]? =some row->row[i.toNat]? =some u->tab T z i=u:=λT z row i u _ _ h1 r=>by
  unfold tab
  rw[List.getD_eq_getElem?_getD,List.getD_eq_getElem?_getD,h1,Option.getD_some,r,Option.getD_some]
 have y:∀t,0<=runM ⟨(itM d n m k P g pk j).2.1,(itM d n m k P g pk j).2.2⟩ I t/\(itM d n m k P g pk j).1[(runM ⟨(itM d n m k P g pk j).2.1,(itM d n m k P g pk j).2.2⟩ I t).toNat]? =some (xsM n m P g pk (λt=>(I t).toNat) t):=λt=>by
  induction t with
  | zero=>exact⟨Int.le_refl 0,s.zero⟩
  | succ t w=>
   obtain⟨b,a⟩:=w
   obtain⟨x,row,q,a1,a2,f,c⟩:=l _ (by rw[hjl];exact(bJ.1 a).1)
   rw[a]at a1
   cases a1
   obtain⟨e,v⟩:=hI t
   obtain⟨⟨u,A,B,C⟩,_⟩:=c (I t).toNat (by omega)
   show 0<=tab (itM d n m k P g pk j).2.1 (runM _ I t) (I t)/\(itM d n m k P g pk j).1[(tab (itM d n m k P g pk j).2.1 (runM _ I t) (I t)).toNat]? =_
   rw[o _ _ row (I t) u b e a2 A]
   exact⟨B,C⟩
 obtain⟨b,a⟩:=y t
 obtain⟨x,row,q,a1,a2,f,c⟩:=l _ (by rw[hjl];exact(bJ.1 a).1)
 rw[a]at a1
 cases a1
 obtain⟨e,v⟩:=hI t
 obtain⟨_,D⟩:=c (I t).toNat (by omega)
 refine⟨b,a,?_⟩
 unfold letM
 rw[hm]
 show tab (itM d n m k P g pk j).2.2 (runM _ I t) (I t) * (m:Int)+I t=_
 rw[o _ _ q (I t) _ b e f D]
 omega
include hk
theorem wO (hc:∀r∈d.Pairs,(∀z∈r.Ask,z<(n:Int))/\∀z∈r.Give,z<(n:Int)){N:Nat}(A:ltr p=N){c:Clause}(k1:1<=c.Kind) (k7:c.Kind<=7){i:Nat}{π:Int->Int}(hs:Sm N d c i π):Sat c (letM p ⟨(itM d n m k P g pk j).2.1,(itM d n m k P g pk j).2.2⟩ I):=by
 have f:∀t,(I t).toNat<m:=λt=>by have:=hI t;omega
 have hx:=zf (p:=p) h h0 hm hj hjl hI
 have q:=xv h h0 f
 obtain⟨r,F,w⟩:=hs.pair
 have C:=xw h h0 f hc F
 have l:=h.dl
 rw[sM k1 k7]
 have u:∀t,mrun c (letM p ⟨(itM d n m k P g pk j).2.1,(itM d n m k P g pk j).2.2⟩ I) t=π (atP P (xsM n m P g pk (λt=>(I t).toNat) t)):=λt=>by
  induction t with
  | zero=>
   obtain⟨v,G,_⟩:=sR h h0 f 0
   have D:=h.rg.game.zero
   have e:atP P (xsM n m P g pk (λt=>(I t).toNat) 0)=0:=eH (v:=⟨0,firstR d.Pairs.length⟩) (by show idx P ((0:Nat):Int)=_;rw[bT];exact D)
   rw[e,hs.zero];rfl
  | succ t E=>
   show mst c (mrun c _ t) _=_
   obtain⟨x,a,b,s,y⟩:=q t
   have B:oM d pk P (fN g.Arena (xsM n m P g pk (λt=>(I t).toNat) t)) n m k (atP P (xsM n m P g pk (λt=>(I t).toNat) t)).toNat (I t).toNat * m+(I t).toNat<(N:Int):=by
    rw[← A]
    unfold ltr
    rw[hm,hk]
    generalize oM d pk P (fN g.Arena (xsM n m P g pk (λt=>(I t).toNat) t)) n m k (atP P (xsM n m P g pk (λt=>(I t).toNat) t)).toNat (I t).toNat=o at s y
    have:=Int.mul_le_mul_of_nonneg_right (show o+1<=k by omega) (show(0:Int)<=m by omega)
    have:=f t
    rw[Int.add_mul,Int.one_mul,Int.mul_comm (k:Int)]at *
    omega
   rw[E,(hx t).2.2,x]
   exact(hs.step _ _ a (by rw[l];exact b) (Int.add_nonneg (Int.mul_nonneg s (by omega)) (by omega)) B).symm
 refine λha=>(kI λt=>?_).1 (C ((kI λt=>?_).1 ha))
 · obtain⟨_,a,b,_⟩:=q t
   rw[u]
   exact(w _ a (by rw[l];exact b)).2
 · obtain⟨_,a,b,_⟩:=q t
   rw[u]
   exact(w _ a (by rw[l];exact b)).1.symm
end
end Go.Proofs.YtleekpaohfpooaaGreat
set_option linter.unusedVariables false
set_option linter.unusedSimpArgs false
namespace Go.Proofs.YtleekpaohfpooaaGreat
open Go Go.Wk Go.Proofs
theorem vI {p:Sig}{d:Det}(hd:detOk p d=true):∀b∈d.Pairs,(∀z∈b.Ask,z<(d.Next.length:Int))/\∀z∈b.Give,z<(d.Next.length:Int):=λx hx=>by
 unfold detOk at hd
 simp only[n6]at hd
 have hp:=hd.1.2
 unfold pairsOk at hp
 rw[n6,List.all_eq_true]at hp
 have:=hp.2 x hx
 unfold pairOk at this
 rw[n6]at this
 exact⟨λz a=>((St.of this.1).rng z a).2,λz a=>((St.of this.2).rng z a).2⟩
structure Good (p:Sig) (cs:List Clause) (M:Machine):Prop where
 ok:machOk p M=true
 le:M.Next.length<=32
 sat:∀I:Nat->Int,(∀t,0<=I t/\I t<pw p.In)->∀c∈cs,Sat c (letM p M I)
inductive MadeBy (p:Sig) (cs:List Clause):Machine->Prop
 | mk {d:Det} {n m k:Nat} {A:Arena} {P:List Place} {g:Parity} {W:Int->Prop} {pk:List Int} (h1:da p cs=some (d,true)) (S:Stq p cs d n m k A P g W pk) (hn:n<=16) (hp:d.Pairs.length<=2) (h0:wB W 0=false) {j:Nat} (hj:∀i,i<j->i<(itM d n m k P g pk i).1.length) (hjl:j=(itM d n m k P g pk j).1.length):MadeBy p cs ⟨(itM d n m k P g pk j).2.1,(itM d n m k P g pk j).2.2⟩
theorem MadeBy.good {p:Sig}{cs:List Clause}{M:Machine}(h:MadeBy p cs M) (hc:∀c∈cs,cQ p c=true):Good p cs M:=by
 obtain⟨_,S,hn,hp,h0,hj,hjl⟩:=h
 rename_i d n m k A P g W pk j
 have e:=g8 S.cx h0 j hj
 have v:=qg S.cx hn hp e.nm λx hx=>(e.all x hx).2
 have s:=e.nxl
 have u:=e.oul
 have w:=(bJ.1 e.zero).1
 obtain⟨N,f,q⟩:=S.prd
 refine⟨rq (by dsimp only;omega) (by dsimp only;omega) (by dsimp only;omega) (λrow hr=>?_) (λrow hr=>?_),by dsimp only;omega,λI hI c l=>?_⟩
 · obtain⟨a,b⟩:=e.nxr row hr
   exact⟨by rw[a,S.im],λx hx=>by have:=b x hx;dsimp only;omega⟩
 · obtain⟨a,b⟩:=e.our row hr
   rw[S.ok]
   exact⟨by rw[a,S.im],b⟩
 · obtain⟨i,r⟩:=List.getElem?_of_mem l
   obtain⟨π,hs⟩:=q.sm f hc i c r
   obtain⟨k1,k7⟩:=ko (hc c l)
   have o:=vI S.det
   rw[S.cx.dl]at o
   exact wO S.cx h0 S.im S.ok hj hjl (λt=>by have:=hI t;rw[S.im]at this;exact this) o f k1 k7 hs
end Go.Proofs.YtleekpaohfpooaaGreat
set_option linter.unusedVariables false
set_option linter.unusedSimpArgs false
namespace Go.Proofs.YtleekpaohfpooaaGreat
open Go Go.Wk Go.Proofs
theorem tU {p:Sig}(hs:sigOk p=true){cs:List Clause}(hb:∀c∈cs,Clause.bd c) (hc:∀c∈cs,cQ p c=true) (e:cs.length<=2):∃d A n m k P g W pk,da p cs=some (d,true)/\Stq p cs d n m k A P g W pk/\((wB W 0=true/\gD p cs=some (⟨[],[]⟩,false))\/(wB W 0=false/\∃M,gD p cs=some (M,true)/\MadeBy p cs M)):=by
 obtain⟨d,A,n,m,k,P,g,W,pk,h1,S,hn,hp,hpb,f,i,l,hW⟩:=yo hs hb hc e
 refine⟨d,A,n,m,k,P,g,W,pk,h1,S,?_⟩
 unfold gD
 simp only[h1,f,i,l,hW,bG,sh,cond_false]
 cases a:wB W 0 with
 | true=>exact .inl ⟨rfl,rfl⟩
 | false=>
  obtain⟨j,o,q,w1⟩:=zj hs S.det hpb S.cx S.im S.ok a λj hj=>by
   have b:=g8 S.cx a j hj
   have:=qg S.cx hn hp b.nm λx hx=>(b.all x hx).2
   omega
  refine .inr ⟨rfl,_,?_,⟨h1,S,hn,hp,a,o,q⟩⟩
  show(bif (b2i false !=0) then _ else _)=_
  unfold nJ
  rw[show(b2i false !=0)=false from rfl,cond_false,w1];rfl
end Go.Proofs.YtleekpaohfpooaaGreat
set_option linter.unusedVariables false
set_option linter.unusedSimpArgs false
namespace Go.Proofs.YtleekpaohfpooaaGreat
open Go Go.Wk Go.Proofs
theorem yl {p:Sig}(hs:sigOk p=true){cs:List Clause}(hb:∀c∈cs,Clause.bd c) (hc:∀c∈cs,cQ p c=true) (hl:cs.length<=3){w:Word}(l:wordOk w (ltr p)=true):∃r,eJ p cs w=some r/\((r= -1/\∀c∈cs,Sat c (ltW w))\/∃(i:Nat) (c:Clause),r=(i:Int)/\cs[i]? =some c/\¬Sat c (ltW w)):=by
 have q:=lI hs
 have n:fO p w=some true:=by
  unfold fO
  rw[dE,hs,dM hs]
  simp only[bG,cond_true]
  rw[kr w (by omega) (by omega),l];rfl
 obtain⟨o,w1,g⟩:=wC (f:=dD p cs w) (λj (_:Unit)=>∀(i:Nat) c,i<j->cs[i]? =some c->Sat c (ltW w)) (λr=>∃(i:Nat) (c:Clause),r=(i:Int)/\cs[i]? =some c/\¬Sat c (ltW w)) (λ_=>False) cs.length (s:=()) (λi c d=>absurd d (Nat.not_lt_zero i)) (λj s hj hI=>by
  have a:cs[j]? =some cs[j]:=bI hj
  generalize cs[j]=c at a
  have hm:=bL a
  obtain⟨b,m,k⟩:=zA hs (hb c hm) (hc c hm) l
  unfold dD
  rw[bT,a,bG,m,bG]
  cases b with
  | true=>
   refine⟨_,rfl,λi x d hx=>?_⟩
   by_cases e:i=j
   · subst e
     rw[a]at hx
     cases hx
     exact k.1 rfl
   · exact hI i x (by omega) hx
  | false=>exact⟨_,rfl,j,c,rfl,a,λh=>by have:=k.2 h;cases this⟩)
 unfold eJ
 rw[kN hs hb,decide_eq_true (by omega),List.all_eq_true.2 hc,n]
 simp only[bG,Bool.and_self,sh,cond_false]
 rw[w1,bG]
 match o,g with
 | .inl r,g=>exact⟨r,rfl,.inr g⟩
 | .inr s,.inl g=>
  refine⟨-1,rfl,.inl ⟨rfl,λc hm=>?_⟩⟩
  obtain⟨i,d⟩:=List.getElem?_of_mem hm
  exact g i c (bJ.1 d).1 d
end Go.Proofs.YtleekpaohfpooaaGreat
set_option linter.unusedVariables false
set_option linter.unusedSimpArgs false
namespace Go.Proofs.YtleekpaohfpooaaGreat
open Go Go.Wk Go.Proofs
theorem uZ {x:l30Graph}{K:List Key}(h1:x.of=K.map (·.1)) (c:x.by0=K.map (·.2)) (hl:K.length<=100000) (p q:Int):
 ma x p q=some (atK K (p,q),(addK K (p,q)).map (·.1),(addK K (p,q)).map (·.2)):=by
 have d:x.of.length=K.length:=by rw[h1,zQ]
 unfold ma
 rw[d,ee (f:=mB x p q) (λk=>((p,q):Key)==k) (λi=>((i:Int),x.of,x.by0)) (xs:=K) (λi k hk=>by
  unfold mB
  rw[bT,bT,show x.of[i]? =some k.1 from by rw[h1,List.getElem?_map,hk];rfl,show x.by0[i]? =some k.2 from by rw[c,List.getElem?_map,hk];rfl]
  simp only[bG]
  have:(((p,q):Key)==k)=((k.1==p)&&(k.2==q)):=by
   obtain⟨a,b⟩:=k
   rw[Bool.eq_iff_iff,beq_iff_eq,n6,beq_iff_eq,beq_iff_eq,Prod.mk.injEq]
   exact⟨λh=>⟨h.1.symm,h.2.symm⟩,λh=>⟨h.1.symm,h.2.symm⟩⟩
  rw[this]
  cases k.1==p <;> cases k.2==q <;> rfl)]
 unfold atK addK loc
 rw[bG]
 cases K.findIdx? (λk=>((p,q):Key)==k) with
 | some i=>simp[aft,h1,c]
 | none=>
  have e:x.by0.length=K.length:=by rw[c,zQ]
  simp only[ca]
  rw[app1 (by omega) rfl,bG,app1 (by omega) rfl,bG,h1,c]
  simp only[zF,zQ,zI,zK,List.map_append,List.map_cons,List.map_nil]
  rw[wr' (by omega) (by omega)]
  congr 2
  omega
def nums (n:Nat):List Int:=(List.range n).map (λi:Nat=>(i:Int))
theorem rt (n:Nat):nums (n+1)=nums n++[(n:Int)]:=by simp[nums,List.range_succ]
def keyW (m:Machine) (d:Det) (ins q r j:Int):Key:=(tab m.Next q j,tab d.Next r (tab m.Out q j * ins+j))
abbrev St3:=List Key×List Int×List Int
def stepW (m:Machine) (d:Det) (ins q r:Int) (s:St3) (j:Int):St3:=(addK s.1 (keyW m d ins q r j),s.2.1++[atK s.1 (keyW m d ins q r j)],s.2.2++[tab m.Out q j * ins+j])
def rowW (m:Machine) (d:Det) (ins q r:Int) (K:List Key) (j:Nat):St3:=(nums j).foldl (stepW m d ins q r) (K,[],[])
theorem nG (m:Machine) (d:Det) (ins q r:Int) (K:List Key) (j:Nat):rowW m d ins q r K (j+1)=stepW m d ins q r (rowW m d ins q r K j) j:=by
 unfold rowW
 rw[rt,List.foldl_append];rfl
def Kin (a b:Int) (K:List Key):Prop:=∀k∈K,0<=k.1/\k.1<a/\0<=k.2/\k.2<b
section
variable {p:Sig}{m:Machine}{d:Det}(hm:machOk p m=true) (hd:detOk p d=true)
include hm hd
theorem r8 {q r j:Int}(g:0<=q) (y:q<m.Next.length) (z:0<=r) (A:r<d.Next.length) (f:0<=j) (e:j<pw p.In):
 ∃a b c,idx m.Next q=some a/\idx a j=some (keyW m d (pw p.In) q r j).1/\idx m.Out q=some b/\idx b j=some (tab m.Out q j)/\idx d.Next r=some c/\idx c (tab m.Out q j * pw p.In+j)=some (keyW m d (pw p.In) q r j).2 /\
  0<=tab m.Out q j/\tab m.Out q j<4/\0<=(keyW m d (pw p.In) q r j).1/\(keyW m d (pw p.In) q r j).1<m.Next.length/\0<=(keyW m d (pw p.In) q r j).2/\(keyW m d (pw p.In) q r j).2<d.Next.length:=by
 obtain⟨_,_,C,v,w⟩:=c9 hm
 obtain⟨_,_,_,x⟩:=dC hd
 obtain⟨a,a1,a2,i,k⟩:=iL v g y f e
 obtain⟨b,l,n,o,B⟩:=iL w g (by omega) f e
 have D:=eR p.Out
 have u:tab m.Out q j * pw p.In+j<ltd p:=by
  unfold ltd
  have hp:pw p.In=2\/pw p.In=4:=by unfold pw;split <;> simp
  rcases hp with hp | hp <;> rw[hp]at e ⊢ <;> omega
 have h0:0<=tab m.Out q j * pw p.In+j:=by
  have hp:pw p.In=2\/pw p.In=4:=by unfold pw;split <;> simp
  rcases hp with hp | hp <;> rw[hp] <;> omega
 obtain⟨c,c1,c2,s,t⟩:=iL x z A h0 u
 exact⟨a,b,c,a1,a2,l,n,c1,c2,o,by omega,i,k,s,t⟩
theorem pH {q r:Int}(b:0<=q) (c:q<m.Next.length) (e:0<=r) (f:r<d.Next.length){K:List Key}(a:Kin m.Next.length d.Next.length K):∀(j:Nat),(j:Int)<=pw p.In ->
 Kin m.Next.length d.Next.length (rowW m d (pw p.In) q r K j).1/\K.length<=(rowW m d (pw p.In) q r K j).1.length/\(rowW m d (pw p.In) q r K j).1.length<=K.length+j/\(rowW m d (pw p.In) q r K j).2.1.length=j/\(rowW m d (pw p.In) q r K j).2.2.length=j /\
  (∀(i:Nat) v,K[i]? =some v->(rowW m d (pw p.In) q r K j).1[i]? =some v)
 | 0,_=>⟨a,Nat.le_refl _,by simp[rowW,nums],rfl,rfl,λ_ _ h=>h⟩
 | j+1,hj=>by
  obtain⟨h1,w,x,g,l,n⟩:=pH b c e f a j (by omega)
  obtain⟨_,_,_,_,_,_,_,_,_,_,_,k1,s,t,u⟩:=r8 hm hd b c e f (j:=(j:Int)) (by omega) (by omega)
  rw[nG]
  generalize rowW m d (pw p.In) q r K j=F at *
  have hl:=sS F.1 (keyW m d (pw p.In) q r j)
  refine⟨λk hk=>?_,?_,?_,?_,?_,λi v o=>pK (n i v o)⟩
  · rcases sT hk with hk | rfl
    · exact h1 k hk
    · exact⟨k1,s,t,u⟩
  · show K.length<=(addK F.1 _).length
    omega
  · show(addK F.1 _).length<=_
    omega
  · show(F.2.1++[_]).length=_
    simp[g]
  · show(F.2.2++[_]).length=_
    simp[l]
end
end Go.Proofs.YtleekpaohfpooaaGreat
set_option linter.unusedVariables false
set_option linter.unusedSimpArgs false
namespace Go.Proofs.YtleekpaohfpooaaGreat
open Go Go.Wk Go.Proofs
abbrev WT:=List Key×Int×List (List Int)×List (List Int)×List (Key×Int)
abbrev WS:=Int×List Int×List Int×List (List Int)×List (List Int)
def toS (t:WT):WS:=(t.2.1,t.1.map (·.1),t.1.map (·.2),t.2.2.1,t.2.2.2.1)
def InvW (m:Machine) (d:Det) (k:Nat) (t:WT):Prop:=Kin m.Next.length d.Next.length t.1/\0<=t.2.1/\t.2.1<=t.1.length/\(t.2.2.1.length:Int)=t.2.1/\(t.2.2.2.1.length:Int)=t.2.1/\(∀r∈t.2.2.1,r.length=k)/\t.2.2.2.2=ixm 0 t.1/\t.1.length<=256
section
variable {p:Sig}{m:Machine}{d:Det}(hs:sigOk p=true) (hm:machOk p m=true) (hd:detOk p d=true){k:Nat}(hk:pw p.In=(k:Int))
include hs hm hd hk
theorem yK {q r:Int}(g:0<=q) (l:q<m.Next.length) (n:0<=r) (o:r<d.Next.length){K:List Key}(y:Kin m.Next.length d.Next.length K) (hl:K.length<=1000){x42 x47:Key}(t:x42.1=q) (v:x47.2=r){row:List Int}(w:idx m.Next q=some row):
 cntM (gW p m d x42 x47 row) k 0 (K,[],[],ixm 0 K)=some (.inr ((rowW m d (pw p.In) q r K k).1,(rowW m d (pw p.In) q r K k).2.1,(rowW m d (pw p.In) q r K k).2.2,ixm 0 (rowW m d (pw p.In) q r K k).1)):=by
 obtain⟨X,Y,Z,aa,ab⟩:=c9 hm
 obtain⟨J,L,_,_⟩:=dC hd
 obtain⟨ac,h1,x⟩:=cJ (f:=gW p m d x42 x47 row) (λj s=>s=((rowW m d (pw p.In) q r K j).1,(rowW m d (pw p.In) q r K j).2.1,(rowW m d (pw p.In) q r K j).2.2,ixm 0 (rowW m d (pw p.In) q r K j).1)) k (s:=(K,[],[],ixm 0 K)) rfl (λj s hj hI=>by
  subst hI
  obtain⟨M,N,O,P,Q,R⟩:=pH hm hd g l n o y j (by omega)
  obtain⟨a,b,c,k1,C,D,E,G,H,k7,W,I,U,B,V⟩:=r8 hm hd g l n o (j:=(j:Int)) (by omega) (by omega)
  rw[w]at k1
  cases k1
  refine⟨_,?_,rfl⟩
  rw[nG]
  have T:=eR p.In
  have S:0<=tab m.Out q j * pw p.In/\tab m.Out q j * pw p.In<=16:=by
   have hp:pw p.In=2\/pw p.In=4:=by unfold pw;split <;> simp
   rcases hp with hp | hp <;> rw[hp] <;> omega
  unfold gW
  rw[t,v,C,bG,D,bG,E,bG,jR hs,bG,G,bG,wr' (z:=tab m.Out q j * pw p.In) (by omega) (by omega),wr' (by omega) (by omega),H,bG]
  have e:kwI2 (keyW m d (pw p.In) q r j)=true:=zu I (by omega) B (by omega)
  unfold stepW
  generalize rowW m d (pw p.In) q r K j=F at *
  generalize keyW m d (pw p.In) q r j=u at *
  dsimp only
  rw[show((u.1,u.2):Key)=u from rfl,wQ F.1 e,bG]
  unfold addK atK
  cases A:loc F.1 u with
  | some i=>
   simp only[sh,cond_false,bG]
   rw[app1 (by omega) rfl,bG,app1 (by omega) rfl]
   rfl
  | none=>
   simp only[Bool.not_false,cond_true]
   rw[wS e A,bG,app1 (by omega) rfl,bG,bG]
   dsimp only
   rw[app1 (by omega) rfl,bG,app1 (by omega) rfl]
   rfl)
 rw[h1,x]
theorem zo {q r:Int}(n:0<=q) (t:q<m.Next.length) (v:0<=r) (w:r<d.Next.length){K:List Key}(y:Kin m.Next.length d.Next.length K) (hl:K.length<=1000){s1:WS}{i:Nat}(hi:s1.1=(i:Int)) (A:K[i]? =some (q,r)):
 ∃z,cu (jW p m d s1) (2 ^ 64) ([],[],0,K.map (·.1),K.map (·.2))=some (.inr ((rowW m d (pw p.In) q r K k).2.1,(rowW m d (pw p.In) q r K k).2.2,z,(rowW m d (pw p.In) q r K k).1.map (·.1),(rowW m d (pw p.In) q r K k).1.map (·.2))):=by
 obtain⟨X,Y,Z,aa,ab⟩:=c9 hm
 obtain⟨I,J,_,_⟩:=dC hd
 have R:=eR p.In
 obtain⟨B,_⟩:=dN hs
 obtain⟨o,h1,e⟩:=cZ (f:=jW p m d s1) (λj s=>s=((rowW m d (pw p.In) q r K j).2.1,(rowW m d (pw p.In) q r K j).2.2,(j:Int),(rowW m d (pw p.In) q r K j).1.map (·.1),(rowW m d (pw p.In) q r K j).1.map (·.2))/\j<=k)
  (λ_=>False) (λs=>s=((rowW m d (pw p.In) q r K k).2.1,(rowW m d (pw p.In) q r K k).2.2,(k:Int),(rowW m d (pw p.In) q r K k).1.map (·.1),(rowW m d (pw p.In) q r K k).1.map (·.2))) k (λj s ⟨hI,hj⟩=>by
  subst hI
  unfold jW eF
  rw[dc B,bG,bG]
  by_cases g:(j:Int)<pw p.In
  · obtain⟨L,M,N,O,P,x⟩:=pH hm hd n t v w y j (by omega)
    obtain⟨a,b,c,k1,C,D,E,G,H,k7,V,W,S,T,U⟩:=r8 hm hd n t v w (j:=(j:Int)) (by omega) (by omega)
    have Q:0<=tab m.Out q j * pw p.In/\tab m.Out q j * pw p.In<=16:=by
     have hp:pw p.In=2\/pw p.In=4:=by unfold pw;split <;> simp
     rcases hp with hp | hp <;> rw[hp] <;> omega
    have hr:=nG m d (pw p.In) q r K j
    have l:=x i _ A
    refine⟨.inr (.inr ((rowW m d (pw p.In) q r K (j+1)).2.1,(rowW m d (pw p.In) q r K (j+1)).2.2,((j+1:Nat):Int),(rowW m d (pw p.In) q r K (j+1)).1.map (·.1),(rowW m d (pw p.In) q r K (j+1)).1.map (·.2))),?_,by omega,rfl,by omega⟩
    rw[hr]
    unfold stepW
    generalize rowW m d (pw p.In) q r K j=F at *
    generalize hu:keyW m d (pw p.In) q r j=u at *
    simp only[g,decide_true,cond_true]
    rw[hi,bT,bT,show(F.1.map (·.1))[i]? =some q from by rw[List.getElem?_map,l];rfl,show(F.1.map (·.2))[i]? =some r from by rw[List.getElem?_map,l];rfl]
    simp only[bG,k1,C,D,E,G]
    rw[wr' (z:=tab m.Out q j * pw p.In) (by omega) (by omega),wr' (by omega) (by omega),H,bG,uZ (K:=F.1) rfl rfl (by omega),bG,app1 (by omega) rfl,bG,app1 (by omega) rfl,bG,wr' (by omega) (by omega)]
    rfl
  · have:j=k:=by omega
    subst this
    refine⟨.inr (.inl _),?_,rfl⟩
    simp only[g,decide_false,cond_false]) (2 ^ 64) 0 ([],[],0,K.map (·.1),K.map (·.2)) (by omega) ⟨rfl,by omega⟩ (by omega)
 match o,e with
 | .inr s,e=>exact⟨(k:Int),by rw[h1,e]⟩
end
end Go.Proofs.YtleekpaohfpooaaGreat
set_option linter.unusedVariables false
set_option linter.unusedSimpArgs false
namespace Go.Proofs.YtleekpaohfpooaaGreat
open Go Go.Wk Go.Proofs
theorem tP (row:List Int) (v:Int):dZ row v=some (row.any (λx=>v==x)):=by
 unfold dZ
 rw[dt (f:=fE row v) (r:=true) (λx=> !(v==x)) (xs:=row) rfl (λi y hy=>by
  unfold fE
  rw[bT,hy,bG,show(y==v)=(v==y) from BEq.comm]
  cases v==y <;> rfl),List.any_eq_not_all_not]
 cases row.all (λx=> !(v==x)) <;> rfl
def partN (K:List Key) (S:List Int):Nat->List Int
 | 0=>[]
 | j+1=>bif (match K[j]? with | some k=>S.any (λx=>k.2==x) | none=>false) then partN K S j++[(j:Int)] else partN K S j
theorem nC (K:List Key) (S:List Int):∀j,(partN K S j).length<=j
 | 0=>Nat.le_refl _
 | j+1=>by
  have:=nC K S j
  unfold partN
  cases(match K[j]? with | some k=>S.any (λx=>k.2==x) | none=>false) with
  | false=>exact Nat.le_succ_of_le this
  | true=>simpa using this
theorem xi {x:l30Graph}{K:List Key}(a:x.by0=K.map (·.2)) (hl:K.length<=1000) (S:List Int):nK x S=some (partN K S K.length):=by
 unfold nK
 obtain⟨d,b,c⟩:=cJ (f:=mC x S) (λj s=>s=partN K S j) K.length (s:=[]) rfl (λj s hj hI=>by
  subst hI
  obtain⟨k,hk⟩:∃k,K[j]? =some k:=⟨_,bI hj⟩
  have:=nC K S j
  refine⟨_,?_,rfl⟩
  unfold mC
  rw[bT,show x.by0[j]? =some k.2 from by rw[a,List.getElem?_map,hk];rfl,bG,tP,bG]
  conv=>rhs;unfold partN
  rw[hk]
  dsimp only
  cases S.any (λx=>k.2==x) with
  | false=>rfl
  | true=>
   simp only[cond_true]
   rw[app1 (by omega) rfl];rfl)
 rw[a,zQ,b,c];rfl
def partP (K:List Key) (x:Pair):Pair:=⟨partN K x.Ask K.length,partN K x.Give K.length⟩
theorem yH {a:WT}(hl:a.1.length<=1000) (x:Pair):cntM (gY a x) a.1.length 0 ([],[])=some (.inr (partN a.1 x.Ask a.1.length,partN a.1 x.Give a.1.length)):=by
 obtain⟨d,b,c⟩:=cJ (f:=gY a x) (λj s=>s=(partN a.1 x.Ask j,partN a.1 x.Give j)) a.1.length (s:=([],[])) rfl (λj s hj hI=>by
  subst hI
  obtain⟨k,hk⟩:∃k,a.1[j]? =some k:=⟨_,bI hj⟩
  have:=nC a.1 x.Ask j
  have:=nC a.1 x.Give j
  refine⟨_,?_,rfl⟩
  unfold gY
  rw[bT,hk,bG,cK,bG,cK]
  conv=>rhs;unfold partN
  rw[hk]
  dsimp only
  cases x.Ask.any (λx=>k.2==x) <;> cases x.Give.any (λx=>k.2==x) <;> simp only[cond_true,cond_false,bG]
  · rw[app1 (by omega) rfl];rfl
  · rw[app1 (by omega) rfl];rfl
  · rw[app1 (by omega) rfl,bG,bG,app1 (by omega) rfl];rfl)
 rw[b,c]
section
variable {p:Sig}{m:Machine}{d:Det}(hs:sigOk p=true) (hm:machOk p m=true) (hd:detOk p d=true)
include hs hm hd
end
end Go.Proofs.YtleekpaohfpooaaGreat
set_option linter.unusedVariables false
set_option linter.unusedSimpArgs false
namespace Go.Proofs.YtleekpaohfpooaaGreat
open Go Go.Wk Go.Proofs
def kyW (m:Machine) (d:Det) (ins:Int) (v:Key) (x:Int):Key:=keyW m d ins v.1 v.2 x
def letW (m:Machine) (ins:Int) (v:Key) (x:Int):Int:=tab m.Out v.1 x * ins+x
theorem rD (m:Machine) (d:Det) (ins:Int) (v:Key) (K:List Key):∀j:Nat,(rowW m d ins v.1 v.2 K j).1=(rowK (kyW m d ins v) K j).1/\(rowW m d ins v.1 v.2 K j).2.1=(rowK (kyW m d ins v) K j).2/\(rowW m d ins v.1 v.2 K j).2.2=(nums j).map (letW m ins v)
 | 0=>⟨rfl,rfl,rfl⟩
 | j+1=>by
  obtain⟨h1,a,b⟩:=rD m d ins v K j
  rw[nG]
  unfold stepW
  dsimp only
  have e:rowK (kyW m d ins v) K (j+1)=(addK (rowK (kyW m d ins v) K j).1 (kyW m d ins v j),(rowK (kyW m d ins v) K j).2++[atK (rowK (kyW m d ins v) K j).1 (kyW m d ins v j)]):=rfl
  rw[h1,a,b,e,rt,List.map_append]
  exact⟨rfl,rfl,rfl⟩
inductive RchW (ky:Key->Int->Key) (k:Nat):Key->Prop
 | zero:RchW ky k (0,0)
 | step {v:Key} {x:Nat} (h:RchW ky k v) (hx:x<k):RchW ky k (ky v x)
def ManyK (m:Machine) (d:Det) (ins:Int) (k:Nat):Prop:=∃K:List Key,256<K.length/\K.Nodup/\Kin m.Next.length d.Next.length K/\∀v∈K,RchW (kyW m d ins) k v
def InvX (m:Machine) (d:Det) (ins:Int) (k:Nat) (t:WT):Prop:=Prod (kyW m d ins) k t.1 t.2.1.toNat t.2.2.1/\t.2.2.2.1.length=t.2.2.1.length/\(∀(j:Nat) l,t.2.2.2.1[j]? =some l->∃v,t.1[j]? =some v/\l=(nums k).map (letW m ins v))/\∀v∈t.1,RchW (kyW m d ins) k v
theorem InvX.init (m:Machine) (d:Det) (ins:Int) (k:Nat):InvX m d ins k ([(0,0)],0,[],[],ixm 0 [(0,0)]):=⟨Prod.init _ _,rfl,λj l h=>by simp at h,λv a=>by rw[zG.1 a];exact .zero⟩
theorem InvX.step {m:Machine}{d:Det}{ins:Int}{k:Nat}{K:List Key}{i:Nat}{t a:List (List Int)}{ix y:List (Key×Int)}(h:InvX m d ins k (K,(i:Int),t,a,ix)){q r:Int}(c:K[i]? =some (q,r)):
 InvX m d ins k ((rowW m d ins q r K k).1,(i:Int)+1,t++[(rowW m d ins q r K k).2.1],a++[(rowW m d ins q r K k).2.2],y):=by
 obtain⟨h1,p,s,b⟩:=h
 dsimp only at h1 p s b
 obtain⟨g,n,o⟩:=rD m d ins (q,r) K k
 dsimp only at g n o
 have f:=mt (kyW m d ins (q,r)) K k
 unfold InvX
 dsimp only
 rw[g,n,o]
 rw[zH]at h1
 have hs:=h1.step c
 have hrl:=h1.rl
 refine⟨?_,by simp[p],λj l hj=>?_,λv w=>?_⟩
 · rw[show((i:Int)+1).toNat=i+1 from by omega];exact hs
 · by_cases e:j<a.length
   · rw[List.getElem?_append_left e]at hj
     obtain⟨v,z,A⟩:=s j l hj
     exact⟨v,f.pre j v z,A⟩
   · have hjl:=(bJ.1 hj).1
     rw[zF]at hjl
     simp only[zI,zK]at hjl
     have:j=i:=by omega
     subst this
     have u:a.length=j:=by omega
     rw[← u]at hj
     simp at hj
     exact⟨(q,r),f.pre j _ c,hj.symm⟩
 · rcases f.mem v w with h | ⟨x,hx,e⟩
   · exact b v h
   · rw[e];exact .step (b _ (bL c)) hx
section
variable {p:Sig}{m:Machine}{d:Det}(hs:sigOk p=true) (hm:machOk p m=true) (hd:detOk p d=true){k:Nat}(hk:pw p.In=(k:Int))
include hs hm hd hk
theorem ub:∃o t,cu (jV p m d) (2 ^ 64) (0,[0],[0],[],[])=some o/\cu (gV p m d) (2 ^ 64) ([(0,0)],0,[],[],ixm 0 [(0,0)])=some t /\
 ((∃t',o= .inr (toS t')/\t= .inr t'/\InvW m d k t'/\InvX m d (pw p.In) k t'/\t'.2.1=t'.1.length)\/(o= .inl (⟨[],[],[],[]⟩,false)/\t= .inl (none,false)/\ManyK m d (pw p.In) k)):=by
 obtain⟨ae,af,ag,T,ah⟩:=c9 hm
 obtain⟨X,Y,_,_⟩:=dC hd
 have ad:=eR p.In
 obtain⟨o,t,h1,E,a⟩:=pg (f:=jV p m d) (g:=gV p m d) (λs t=>s=toS t/\InvW m d k t/\InvX m d (pw p.In) k t) (λs=>300-s.1.toNat) (λr r'=>r=(⟨[],[],[],[]⟩,false)/\r'=(none,false)/\ManyK m d (pw p.In) k) (λs t=>s=toS t/\InvW m d k t/\InvX m d (pw p.In) k t/\t.2.1=t.1.length) (λs t ⟨R,hI,G⟩=>by
  subst R
  obtain⟨e,I,S,U,V,J,L,W⟩:=id hI
  obtain⟨K,C,c,b,ix⟩:=t
  dsimp only at e I S U V J L W
  subst L
  unfold jV gV toS
  dsimp only
  rw[zQ]
  by_cases B:C<(K.length:Int)
  · obtain⟨i,rfl⟩:=dy I
    obtain⟨⟨q,r⟩,j⟩:∃v,K[i]? =some v:=⟨_,bI (by omega)⟩
    obtain⟨l,n,w,y⟩:=e _ (bL j)
    dsimp only at l n w y
    obtain⟨row,H,Q⟩:=iH (xs:=m.Next) l n
    have hrl:row.length=k:=by have:=(T row Q).1;omega
    obtain⟨z,P⟩:=zo hs hm hd hk l n w y e (by omega) (s1:=((i:Int),K.map (·.1),K.map (·.2),c,b)) (i:=i) rfl j
    have O:=yK hs hm hd hk l n w y e (by omega) (x42:=(q,r)) (x47:=(q,r)) rfl rfl H
    have A:InvX m d (pw p.In) k ((rowW m d (pw p.In) q r K k).1,(i:Int)+1,c++[(rowW m d (pw p.In) q r K k).2.1],b++[(rowW m d (pw p.In) q r K k).2.2],ixm 0 (rowW m d (pw p.In) q r K k).1):=InvX.step G j
    obtain⟨D,Z,aa,M,ab,N⟩:=pH hm hd l n w y e k (by omega)
    generalize rowW m d (pw p.In) q r K k=F at *
    simp only[B,decide_true,cond_true,bT,j,bG,H,hrl,P,O,ca,zQ]
    by_cases u:(256:Int)<(F.1.length:Int)
    · refine⟨.inl (⟨[],[],[],[]⟩,false),.inl (none,false),?_,?_,rfl,rfl,F.1,by omega,A.1.nod,D,A.2.2.2⟩
      · simp only[u,decide_true,cond_true]
      · simp only[u,decide_true,cond_true]
    · have ac:=(bJ.1 (N i _ j)).1
      refine⟨.inr (.inr (toS (F.1,(i:Int)+1,c++[F.2.1],b++[F.2.2],ixm 0 F.1))),.inr (.inr (F.1,(i:Int)+1,c++[F.2.1],b++[F.2.2],ixm 0 F.1)),?_,?_,⟨rfl,⟨D,?_,?_,?_,?_,?_,rfl,?_⟩,A⟩,?_⟩
      · simp only[u,decide_false,cond_false]
        rw[app1 (by omega) rfl,bG,app1 (by omega) rfl,bG,wr' (by omega) (by omega)]
        rfl
      · simp only[u,decide_false,cond_false]
        rw[app1 (by omega) rfl,bG,app1 (by omega) rfl,bG,wr' (by omega) (by omega)]
      · show 0<=(i:Int)+1;omega
      · show(i:Int)+1<=(F.1.length:Int);omega
      · show((c++[F.2.1]).length:Int)=(i:Int)+1;simp;omega
      · show((b++[F.2.2]).length:Int)=(i:Int)+1;simp;omega
      · intro x hx
        rcases zN.1 hx with hx | hx
        · exact J x hx
        · rw[zG.1 hx];exact M
      · show F.1.length<=256;omega
      · show 300-((i:Int)+1).toNat<300-(i:Int).toNat;omega
  · refine⟨.inr (.inl (toS (K,C,c,b,ixm 0 K))),.inr (.inl (K,C,c,b,ixm 0 K)),?_,?_,rfl,hI,G,by dsimp only;omega⟩
    · simp only[B,decide_false,cond_false];rfl
    · simp only[B,decide_false,cond_false]) (2 ^ 64) (2 ^ 64) (0,[0],[0],[],[]) ([(0,0)],0,[],[],ixm 0 [(0,0)]) (by show 300-0<_;omega) (by show 300-0<_;omega) ⟨rfl,⟨λk hk=>by
      rw[zG.1 hk]
      exact⟨by simp,by show(0:Int)<_;omega,by simp,by show(0:Int)<_;omega⟩,by simp,by simp,by simp,by simp,by simp,rfl,by simp⟩,InvX.init m d (pw p.In) k⟩
 match o,t,a with
 | .inl r,.inl r',a=>exact⟨_,_,h1,E,.inr ⟨by rw[a.1],by rw[a.2.1],a.2.2⟩⟩
 | .inr s,.inr t',a=>exact⟨_,_,h1,E,.inl ⟨t',by rw[a.1],rfl,a.2⟩⟩
structure WK (p:Sig) (m:Machine) (d:Det) (k:Nat) (K:List Key) (w:watch):Prop where
 prod:Prod (kyW m d (pw p.In)) k K K.length w.next
 kin:Kin m.Next.length d.Next.length K
 le:K.length<=256
 let_:w.letters.length=K.length/\∀(j:Nat) v,K[j]? =some v->w.letters[j]? =some ((nums k).map (letW m (pw p.In) v))
 pairs:w.pairs=d.Pairs.map (partP K)
omit hs hm hd hk in
theorem nE (K:List Key) (S:List Int):∀j,j<=K.length->partN K S j=plK (·.2) K S j
 | 0,_=>rfl
 | j+1,hj=>by
  have c:=nE K S j (by omega)
  have e:plK (·.2) K S (j+1)=plK (·.2) K S j++(match K[j]? with | some v=>if v.2∈S then[(j:Int)] else[] | none=>[]):=rfl
  have b:K[j]? =some K[j]:=bI (by omega)
  have a:partN K S (j+1)=bif (match K[j]? with | some k=>S.any (λx=>k.2==x) | none=>false) then partN K S j++[(j:Int)] else partN K S j:=rfl
  rw[e,a,c,b]
  dsimp only
  by_cases h:K[j].2∈S
  · have:S.any (λx=>K[j].2==x)=true:=List.any_eq_true.2 ⟨_,h,by simp⟩
    rw[this,cond_true,if_pos h]
  · have:S.any (λx=>K[j].2==x)=false:=by
     rw[List.any_eq_false];intro x hx;simp;exact λe=>h (e ▸ hx)
    rw[this,cond_false,if_neg h,List.append_nil]
theorem qT:(mD p m d=some (⟨[],[],[],[]⟩,false)/\kx p m d=some (none,false)/\ManyK m d (pw p.In) k) \/
 ∃(g:l30Graph) (w:watch) (K:List Key),mD p m d=some (g,true)/\kx p m d=some (some w,true)/\cntM (jp d (g,true)) d.Pairs.length 0 []=some (.inr w.pairs)/\g.next=w.next/\g.letters=w.letters/\WK p m d k K w:=by
 have Q:=eR p.In
 obtain⟨_,_,P,_⟩:=dC hd
 obtain⟨o,t,h1,q,r⟩:=ub hs hm hd hk
 have D:ma ⟨[],[],[],[]⟩ 0 0=some (0,[0],[0]):=by
  rw[uZ (K:=[]) rfl rfl (by simp)];rfl
 have H:mset kwI2 ([]:List (Key×Int)) ((0,0):Key) 0=some (ixm 0 [(0,0)]):=by decide
 unfold mD kx
 rw[D,bG,H,bG]
 dsimp only
 rw[h1,q,bG,bG]
 rcases r with ⟨t',rfl,rfl,hI,B,hl⟩ | ⟨rfl,rfl,C⟩
 · right
   obtain⟨z,R,S,T,U,V,W,J⟩:=hI
   obtain⟨n,X,O,_⟩:=B
   have A:∀(g:l30Graph×Bool),g.1.by0=t'.1.map (·.2)->cntM (jp d g) d.Pairs.length 0 []=some (.inr (d.Pairs.map (partP t'.1)))/\cntM (gX d t') d.Pairs.length 0 []=some (.inr (d.Pairs.map (partP t'.1))):=λg c=>by
    have E:∀(xs:List Pair) (a:List Pair),xs.foldl (λs y=>s++[partP t'.1 y]) a=a++xs.map (partP t'.1):=λxs=>by
     induction xs with
     | nil=>intro a;simp
     | cons x xs I=>intro a;rw[List.foldl_cons,I];simp
    obtain⟨a1,_⟩:=lM (f:=jp d g) (λs y=>s++[partP t'.1 y]) (λj s=>s.length=j) (xs:=d.Pairs) (λi y s hy hs=>by
     have F:=(bJ.1 hy).1
     refine⟨?_,by simp[hs]⟩
     unfold jp
     rw[bT,hy,bG,bG,xi c (by omega),bG,xi c (by omega),bG,app1 (by omega) rfl];rfl) (s:=[]) rfl
    obtain⟨b,_⟩:=lM (f:=gX d t') (λs y=>s++[partP t'.1 y]) (λj s=>s.length=j) (xs:=d.Pairs) (λi y s hy hs=>by
     have F:=(bJ.1 hy).1
     refine⟨?_,by simp[hs]⟩
     unfold gX
     rw[bT,hy,bG,yH (by omega),bG]
     simp only[ca]
     rw[app1 (by omega) rfl];rfl) (s:=[]) rfl
    rw[E,List.nil_append]at a1 b
    exact⟨a1,b⟩
   obtain⟨L,M⟩:=A (⟨t'.1.map (·.1),t'.1.map (·.2),t'.2.2.1,t'.2.2.2.1⟩,true) rfl
   have G:t'.2.1.toNat=t'.1.length:=by omega
   rw[G]at n
   refine⟨⟨t'.1.map (·.1),t'.1.map (·.2),t'.2.2.1,t'.2.2.2.1⟩,⟨t'.2.2.1,t'.2.2.2.1,d.Pairs.map (partP t'.1)⟩,t'.1,rfl,?_,L,rfl,rfl,n,z,J,⟨?_,λj v e=>?_⟩,rfl⟩
   · simp only[ca]
     rw[M];rfl
   · show t'.2.2.2.1.length=t'.1.length;omega
   · have hj:=(bJ.1 e).1
     have hjl:j<t'.2.2.2.1.length:=by omega
     obtain⟨u,l,N⟩:=O j _ (bI hjl)
     rw[e]at l
     cases l
     show t'.2.2.2.1[j]? =_
     rw[bI hjl,N]
 · exact .inl ⟨rfl,rfl,C⟩
end
end Go.Proofs.YtleekpaohfpooaaGreat
set_option linter.unusedVariables false
set_option linter.unusedSimpArgs false
namespace Go.Proofs.YtleekpaohfpooaaGreat
open Go Go.Wk Go.Proofs
open Classical
inductive Wy (sc:Int->List Int) (D:Int->Prop):Int->Int->Prop
 | one {x} (h:¬D x):Wy sc D x x
 | cons {x y z} (h:¬D x) (e:y∈sc x) (w:Wy sc D y z):Wy sc D x z
namespace Wy
variable {sc bk:Int->List Int}{D D':Int->Prop}{x y z:Int}
theorem first (w:Wy sc D x y):¬D x:=by cases w <;> assumption
theorem last (w:Wy sc D x y):¬D y:=by induction w <;> assumption
theorem trans (w:Wy sc D x y) (v:Wy sc D y z):Wy sc D x z:=by
 induction w with
 | one _=>exact v
 | cons h e _ a=>exact .cons h e (a v)
theorem snoc (w:Wy sc D x y) (e:z∈sc y) (h:¬D z):Wy sc D x z:=w.trans (.cons w.last e (.one h))
theorem mono (h:∀x,D' x->D x) (w:Wy sc D x y):Wy sc D' x y:=by
 induction w with
 | one k=>exact .one λd=>k (h _ d)
 | cons k e _ a=>exact .cons (λd=>k (h _ d)) e a
theorem rev (hb:∀x y,y∈bk x->x∈sc y) (w:Wy bk D x y):Wy sc D y x:=by
 induction w with
 | one k=>exact .one k
 | cons k e _ a=>exact a.snoc (hb _ _ e) k
theorem closed {T:Int->Prop}(c:∀a b,T a->b∈sc a->¬D b->T b) (w:Wy sc D x y) (hx:T x):T y:=by
 induction w with
 | one _=>exact hx
 | cons _ e w d=>exact d (c _ _ hx e w.first)
theorem either {T:Int->Prop}(d:∀a b,T a->b∈sc a->¬D b->T b) (w:Wy sc D x y):T y\/Wy sc (λa=>D a\/T a) x y:=by
 induction w with
 | @one x k=>
  by_cases t:T x
  · exact .inl t
  · exact .inr (.one λh=>h.elim k t)
 | @cons x y z k e w c=>
  rcases c with c | c
  · exact .inl c
  · by_cases t:T x
    · exact .inl (w.closed d (d _ _ t e w.first))
    · exact .inr (.cons (λh=>h.elim k t) e c)
theorem avoid {u:Int}(w:Wy sc D x y):Wy sc D x u\/Wy sc (λa=>D a\/a=u) x y:=by
 induction w with
 | @one x k=>
  by_cases t:x=u
  · subst t;exact .inl (.one k)
  · exact .inr (.one λh=>h.elim k t)
 | @cons x y z k e w b=>
  rcases b with b | b
  · exact .inl (.cons k e b)
  · by_cases t:x=u
    · subst t;exact .inl (.one k)
    · exact .inr (.cons (λh=>h.elim k t) e b)
end Wy
inductive Dfs (sc:Int->List Int):(Int->Prop)->List Int->List Int->Prop
 | nil {D}:Dfs sc D [] []
 | skip {D u us S} (h:D u) (k:Dfs sc D us S):Dfs sc D (u::us) S
 | step {D u us S1 S2} (h:¬D u) (k1:Dfs sc (λx=>D x\/x=u) (sc u) S1) (k2:Dfs sc (λx=>D x\/x=u\/x∈S1) us S2):Dfs sc D (u::us) (S1++u::S2)
namespace Dfs
variable {sc bk:Int->List Int}{D:Int->Prop}{us S:List Int}
theorem out (k:Dfs sc D us S):∀x∈S,¬D x:=by
 induction k with
 | nil=>intro x h;cases h
 | skip _ _ ih=>exact ih
 | step h _ _ a b=>
  intro x hx
  rcases zN.1 hx with hx | hx
  · exact λd=>a x hx (.inl d)
  · rcases List.mem_cons.1 hx with e | hx
    · subst e;exact h
    · exact λd=>b x hx (.inl d)
theorem nodup (k:Dfs sc D us S):S.Nodup:=by
 induction k with
 | nil=>exact List.nodup_nil
 | skip _ _ ih=>exact ih
 | step h k1 c d f=>
  refine List.nodup_append.2 ⟨d,List.nodup_cons.2 ⟨λhm=>c.out _ hm (.inr (.inl rfl)),f⟩,λa ha b hb e=>?_⟩
  subst e
  rcases List.mem_cons.1 hb with e | hb
  · exact k1.out _ ha (.inr e)
  · exact c.out _ hb (.inr (.inr ha))
theorem clo (k:Dfs sc D us S):(∀u∈us,D u\/u∈S)/\∀x∈S,∀y∈sc x,D y\/y∈S:=by
 induction k with
 | nil=>exact⟨λu h=>(by cases h),λu h=>(by cases h)⟩
 | skip h _ ih=>
  refine⟨λu c=>?_,ih.2⟩
  rcases List.mem_cons.1 c with e | c
  · subst e;exact .inl h
  · exact ih.1 u c
 | @step D u us a b h k1 i f g=>
  have c1:∀y,(D y\/y=u)\/y∈a->D y\/y∈a++u::b:=λy hy=>by
   rcases hy with (d | e) | m
   · exact .inl d
   · subst e;exact .inr (by simp)
   · exact .inr (by simp[m])
  have c2:∀y,(D y\/y=u\/y∈a)\/y∈b->D y\/y∈a++u::b:=λy hy=>by
   rcases hy with (d | e | m) | m
   · exact .inl d
   · subst e;exact .inr (by simp)
   · exact .inr (by simp[m])
   · exact .inr (by simp[m])
  refine⟨λx hx=>?_,λx hx y hy=>?_⟩
  · rcases List.mem_cons.1 hx with e | hx
    · subst e;exact .inr (by simp)
    · exact c2 _ (g.1 x hx)
  · rcases zN.1 hx with hx | hx
    · exact c1 _ (f.2 x hx y hy)
    · rcases List.mem_cons.1 hx with e | hx
      · subst e;exact c1 _ (f.1 y hy)
      · exact c2 _ (g.2 x hx y hy)
theorem sound (k:Dfs sc D us S):∀x∈S,∃u∈us,Wy sc D u x:=by
 induction k with
 | nil=>intro x h;cases h
 | skip _ _ ih=>
  intro x hx
  obtain⟨u,h1,a⟩:=ih x hx
  exact⟨u,List.mem_cons_of_mem _ h1,a⟩
 | @step D u us g i h k1 j b f=>
  intro x hx
  rcases zN.1 hx with hx | hx
  · obtain⟨c,h1,a⟩:=b x hx
    exact⟨u,by simp,.cons h h1 (a.mono λ_ d=> .inl d)⟩
  · rcases List.mem_cons.1 hx with e | hx
    · subst e;exact⟨x,by simp,.one h⟩
    · obtain⟨c,h1,a⟩:=f x hx
      exact⟨c,List.mem_cons_of_mem _ h1,a.mono λ_ d=> .inl d⟩
theorem mem_iff (k:Dfs sc D us S) (x:Int):x∈S↔∃u∈us,Wy sc D u x:=by
 refine⟨k.sound x,λ⟨u,h1,c⟩=>?_⟩
 have d:∀a b,a∈S->b∈sc a->¬D b->b∈S:=λa b ha hb hd=>(k.clo.2 a ha b hb).resolve_left hd
 exact c.closed (T:=λa=>a∈S) d ((k.clo.1 u h1).resolve_left c.first)
theorem kos (k:Dfs sc D us S):∀x∈S,∀v,Wy sc D x v->∃f,Wy sc D x f/\Wy sc D f x/\∃A B,S=A++f::B/\(v∈A\/v=f):=by
 induction k with
 | nil=>intro x h;cases h
 | skip _ _ ih=>exact ih
 | @step D u us g l h k1 C y z=>
  intro x hx v w
  have p:∀a b,(a∈g\/a=u)->b∈sc a->¬D b->(b∈g\/b=u):=λa b ha hb hd=>by
   have:(D b\/b=u)\/b∈g:=by
    rcases ha with ha | ha
    · exact k1.clo.2 a ha b hb
    · subst ha;exact k1.clo.1 b hb
   rcases this with (d | e) | m
   · exact absurd d hd
   · exact .inr e
   · exact .inl m
  have o:Wy sc D x u->(x∈g\/x=u)->∃f,Wy sc D x f/\Wy sc D f x/\∃A B,g++u::l=A++f::B/\(v∈A\/v=f):=λj q=>by
   refine⟨u,j,?_,g,l,rfl,w.closed (T:=λa=>a∈g\/a=u) p q⟩
   rcases q with m | e
   · obtain⟨c,h1,r⟩:=k1.sound x m
     exact .cons h h1 (r.mono λ_ d=> .inl d)
   · subst e;exact .one h
  rcases zN.1 hx with m | m
  · by_cases j:Wy sc D x u
    · exact o j (.inl m)
    · rcases w.avoid (u:=u) with k | k
      · exact absurd k j
      · obtain⟨f,w1,n,A,B,e,i⟩:=y x m v k
        exact⟨f,w1.mono λ_ d=> .inl d,n.mono λ_ d=> .inl d,A,B++u::l,by rw[e];simp,i⟩
  · rcases List.mem_cons.1 m with e | m
    · subst e;exact o (.one w.first) (.inr rfl)
    · rcases w.either (T:=λa=>a∈g\/a=u) p with t | t
      · obtain⟨A,B,e⟩:=List.append_of_mem m
        refine⟨x,.one w.first,.one w.first,g++u::A,B,by rw[e];simp,.inl ?_⟩
        rcases t with t | t
        · simp[t]
        · simp[t]
      · have t':Wy sc (λa=>D a\/a=u\/a∈g) x v:=t.mono λa ha=>by
         rcases ha with d | e | s
         · exact .inl d
         · exact .inr (.inr e)
         · exact .inr (.inl s)
        obtain⟨f,w1,n,A,B,e,i⟩:=z x m v t'
        refine⟨f,w1.mono λ_ d=> .inl d,n.mono λ_ d=> .inl d,g++u::A,B,by rw[e];simp,?_⟩
        rcases i with i | i
        · exact .inl (by simp[i])
        · exact .inr i
end Dfs
inductive Kos (bk:Int->List Int):(Int->Prop)->List Int->List (List Int)->Prop
 | nil {D}:Kos bk D [] []
 | skip {D v R P} (h:D v) (k:Kos bk D R P):Kos bk D (v::R) P
 | step {D v R S P} (h:¬D v) (d:Dfs bk D [v] S) (k:Kos bk (λx=>D x\/x∈S) R P):Kos bk D (v::R) (S::P)
def noV:Int->Prop:=λ_=>False
def Akin (sc:Int->List Int) (x y:Int):Prop:=Wy sc noV x y/\Wy sc noV y x
section
variable {sc bk:Int->List Int}
theorem Akin.refl (x:Int):Akin sc x x:=⟨.one id,.one id⟩
theorem Akin.symm {x y:Int}(h:Akin sc x y):Akin sc y x:=⟨h.2,h.1⟩
theorem Akin.trans {x y z:Int}(h:Akin sc x y) (k:Akin sc y z):Akin sc x z:=⟨h.1.trans k.1,k.2.trans h.2⟩
theorem ahead {Q R A B:List Int}{v y:Int}(hn:(Q++v::R).Nodup) (e:Q++v::R=B++y::A) (h:v∈A):y∈Q:=by
 have hy:y∈Q++v::R:=by rw[e];simp
 rcases zN.1 hy with m | m
 · exact m
 · exfalso
   have h1:(B++y::A).Nodup:=by rw[← e];exact hn
   obtain⟨k,l,i⟩:=List.nodup_append.1 hn
   obtain⟨j,d,g⟩:=List.nodup_append.1 h1
   have hB:v∉B:=λf=>g v f v (List.mem_cons_of_mem _ h) rfl
   -- v stands in A, so B ++ [y] is ahead of it: it is a part of Q
   rcases List.append_eq_append_iff.1 e with ⟨T,c,b⟩ | ⟨T,c,b⟩
   · cases T with
     | nil=>
      rw[List.nil_append]at b
      injection b with e3 e4
      subst e3
      exact(List.nodup_cons.1 d).1 h
     | cons t T=>
      injection b with e3 e4
      subst e3
      exact hB (by rw[c];simp)
   · cases T with
     | nil=>
      rw[List.nil_append]at b
      injection b with e3 e4
      subst e3
      exact(List.nodup_cons.1 d).1 h
     | cons t T=>
      injection b with e3 e4
      subst e3
      exact i y (by rw[c];simp) y m rfl
theorem vR {L:List Int}(hb:∀x y,y∈bk x↔x∈sc y){V:List Int}(hd:Dfs sc noV V L) (K:∀a b,b∈sc a->a∈L):
 ∀(D:Int->Prop) (R:List Int) (P:List (List Int)),Kos bk D R P->∀Q,L.reverse=Q++R->(∀x,D x↔∃q∈Q,Akin sc q x) ->
 (∀S∈P,S.Nodup/\∃v∈R,(¬D v)/\∀x,x∈S↔Akin sc v x)/\(∀v∈R,D v\/∃S∈P,v∈S)/\P.Pairwise (λS T=>∀x∈S,x∉T)/\∀S∈P,∀x∈S,¬D x:=by
 intro D R P hk
 induction hk with
 | nil=>exact λQ _ _=>⟨λS h=>(by cases h),λS h=>(by cases h),List.Pairwise.nil,λS h=>by cases h⟩
 | @skip D v R P h k o=>
  intro Q i hD
  obtain⟨a1,a2,z,r⟩:=o (Q++[v]) (by rw[i];simp) (λx=>by
   rw[hD]
   refine⟨λ⟨q,h1,f⟩=>⟨q,by simp[h1],f⟩,λ⟨q,h1,f⟩=>?_⟩
   rcases zN.1 h1 with m | m
   · exact⟨q,m,f⟩
   · rw[zG]at m
     subst m
     obtain⟨p,j,C⟩:=(hD q).1 h
     exact⟨p,j,C.trans f⟩)
  refine⟨λS l=>?_,λx hx=>?_,z,r⟩
  · obtain⟨h1,y,f,j⟩:=a1 S l
    exact⟨h1,y,List.mem_cons_of_mem _ f,j⟩
  · rcases List.mem_cons.1 hx with e | hx
    · subst e;exact .inl h
    · exact a2 x hx
 | @step D v R S P h d k o=>
  intro Q i hD
  have O:v∈L:=by
   have:v∈L.reverse:=by rw[i];simp
   exact List.mem_reverse.1 this
  have l:∀x,x∈S↔Akin sc v x:=λx=>by
   rw[d.mem_iff]
   constructor
   · rintro⟨u,E,w⟩
     rw[zG]at E
     subst E
     have w':=w.rev (sc:=sc) (λa b e=>(hb a b).1 e)
     have hx:x∈L:=by
      cases w' with
      | one _=>exact O
      | cons _ e _=>exact K _ _ e
     obtain⟨H,w1,G,A,B,e,n⟩:=hd.kos x hx u (w'.mono λ_ J=>J.elim)
     rcases n with n | n
     · exfalso
       have I:Q++u::R=B.reverse++H::A.reverse:=by rw[← i,e];simp
       have hn:(Q++u::R).Nodup:=by rw[← i];exact(List.reverse_perm L).nodup_iff.2 hd.nodup
       have N:=ahead hn I (List.mem_reverse.2 n)
       exact w.last ((hD x).2 ⟨H,N,G,w1⟩)
     · subst n;exact⟨G,w1⟩
   · intro hx
     refine⟨v,by simp,?_⟩
     have F:∀y,Akin sc v y->¬D y:=λy hy M=>by
      obtain⟨q,h1,f⟩:=(hD y).1 M
      exact h ((hD v).2 ⟨q,h1,f.trans hy.symm⟩)
     have U:∀{a b:Int},Wy sc noV a b->Wy sc noV b a->Akin sc v b->Wy sc D a b:=λ{a b} w=>by
      induction w with
      | one _=>exact λ_ s=> .one (F _ s)
      | @cons a c b h e w o=>exact λw' s=> .cons (F _ (s.trans ⟨w',.cons h e w⟩)) e (o (w'.snoc e id) s)
     exact(U hx.2 hx.1 (Akin.refl v)).rev λa b e=>(hb b a).2 e
  obtain⟨a1,a2,z,r⟩:=o (Q++[v]) (by rw[i];simp) (λx=>by
   show(D x\/x∈S)↔_
   rw[hD,l]
   constructor
   · rintro(⟨q,h1,f⟩ | f)
     · exact⟨q,by simp[h1],f⟩
     · exact⟨v,by simp,f⟩
   · rintro⟨q,h1,f⟩
     rcases zN.1 h1 with m | m
     · exact .inl ⟨q,m,f⟩
     · rw[zG]at m
       subst m;exact .inr f)
  refine⟨λT g=>?_,λx hx=>?_,List.pairwise_cons.2 ⟨λT g x hx t=>r T g x t (.inr hx),z⟩,λT g x hx t=>?_⟩
  · rcases List.mem_cons.1 g with e | g
    · subst e
      exact⟨d.nodup,v,by simp,h,l⟩
    · obtain⟨h1,y,f,j,C⟩:=a1 T g
      exact⟨h1,y,List.mem_cons_of_mem _ f,λk=>j (.inl k),C⟩
  · rcases List.mem_cons.1 hx with e | hx
    · subst e;exact .inr ⟨S,by simp,(l x).2 (Akin.refl x)⟩
    · rcases a2 x hx with (k | k) | ⟨T,h1,f⟩
      · exact .inl k
      · exact .inr ⟨S,by simp,k⟩
      · exact .inr ⟨T,List.mem_cons_of_mem _ h1,f⟩
  · rcases List.mem_cons.1 g with e | g
    · subst e;exact d.out x hx t
    · exact r T g x hx (.inl t)
end
end Go.Proofs.YtleekpaohfpooaaGreat
set_option linter.unusedVariables false
set_option linter.unusedSimpArgs false
namespace Go.Proofs.YtleekpaohfpooaaGreat
open Go Go.Wk Go.Proofs
open Classical
def Mk (n:Nat) (d:List Bool) (S:List Int) (a:List Bool):Prop:=a.length=n/\∀x,In a x↔In d x\/x∈S
theorem Mk.cnt {n:Nat}{d c:List Bool}{S:List Int}(h:Mk n d S c) (hn:S.Nodup) (hd:∀x∈S,¬In d x):cnt d+S.length<=cnt c:=by
 have h1:(gA d d.length++S).Nodup:=List.nodup_append.2 ⟨oB _ _,hn,λa ha b hb e=>hd b hb (e ▸ el.1 ha)⟩
 have:=oW h1 (ys:=gA c c.length) (λx hx=>el.2 ((h.2 x).2 ((zN.1 hx).imp el.1 id)))
 rw[zF]at this
 exact this
theorem Mk.eq {n:Nat}{d a:List Bool}{S:List Int}(h:Mk n d S a):In a=λx=>In d x\/x∈S:=funext λx=>propext (h.2 x)
theorem Dfs.nil_eq {sc:Int->List Int}{D:Int->Prop}{S:List Int}(k:Dfs sc D [] S):S=[]:=by cases k;rfl
theorem Dfs.cat {sc:Int->List Int}{D:Int->Prop}{u:Int}{us S T:List Int}(h:¬D u) (k:Dfs sc D [u] S) (k2:Dfs sc (λx=>D x\/x∈S) us T):Dfs sc D (u::us) (S++T):=by
 generalize e:[u]=l at k
 cases k with
 | nil=>cases e
 | skip b _=>
  injection e with e1 _
  subst e1;exact absurd b h
 | @step _ _ _ a g b k1 f=>
  injection e with e1 e2
  subst e1 e2
  have c:=f.nil_eq
  subst c
  have d:(λx=>D x\/x∈a++[u])=λx=>D x\/x=u\/x∈a:=funext λx=>propext (by simp only[zN,zG];constructor <;> (rintro(h | h | h) <;> simp[h]))
  rw[d]at k2
  have:=Dfs.step h k1 k2
  simpa using this
theorem idxB {B:List Bool}{v:Int}(h:¬In B v) (h0:0<=v) (h1:v<B.length):idx B v=some false:=by rw[eG h0 h1,decide_eq_false h]
theorem setT {d:List Bool}{n:Nat}{v:Int}(hd:d.length=n) (h0:0<=v) (h1:v<n):∃y,setI d v true=some y/\Mk n d [v] y:=by
 obtain⟨y,hy,hl⟩:=eu (xs:=d) (i:=v) true h0 (by omega)
 refine⟨y,hy,by omega,λx=>?_⟩
 unfold In
 rw[fa hy,zG]
 by_cases e:x=v
 · rw[if_pos e];simp[e]
 · rw[if_neg e];simp[e]
abbrev VS:=List Int×List Bool
theorem oo {t:Type}{f:Int->VS->Option (t⊕(VS⊕VS))}{sc:Int->List Int}{M:List Bool}{n c0:Nat}:
 ∀(us:List Int) (j:Nat) (a:List Int) (d:List Bool),
 (∀(i:Nat) u a d,us[i]? =some u->d.length=n->a.length<=cnt d->c0<=cnt d ->
  (¬(In M u/\¬In d u)->f ((j+i:Nat):Int) (a,d)=some (.inr (.inr (a,d)))) /\
  (In M u->¬In d u->∃S b,f ((j+i:Nat):Int) (a,d)=some (.inr (.inr (a++S,b)))/\Mk n d S b/\Dfs sc (In d) [u] S)) ->
 d.length=n->a.length<=cnt d->c0<=cnt d ->
 ∃S b,cntM f us.length (j:Int) (a,d)=some (.inr (a++S,b))/\Mk n d S b/\Dfs sc (In d) (us.filter (λu=>decide (In M u))) S
 | [],j,a,d,_,hd,_,_=>⟨[],d,by rw[List.append_nil];rfl,⟨hd,λx=>by simp⟩,.nil⟩
 | u::us,j,a,d,h,hd,ho,hc=>by
  obtain⟨h1,r⟩:=h 0 u a d rfl hd ho hc
  have hr:∀(i:Nat) w a d,us[i]? =some w->d.length=n->a.length<=cnt d->c0<=cnt d ->
   (¬(In M w/\¬In d w)->f (((j+1)+i:Nat):Int) (a,d)=some (.inr (.inr (a,d)))) /\
   (In M w->¬In d w->∃S b,f (((j+1)+i:Nat):Int) (a,d)=some (.inr (.inr (a++S,b)))/\Mk n d S b/\Dfs sc (In d) [w] S):=λi w a d s=>by
   have:=h (i+1) w a d (by simpa using s)
   rw[show j+(i+1)=(j+1)+i from by omega]at this
   exact this
  by_cases hm:In M u/\¬In d u
  · obtain⟨S,p,q,e,k1⟩:=r hm.1 hm.2
    have v:=e.cnt k1.nodup k1.out
    obtain⟨T,k,m,g,c⟩:=oo us (j+1) (a++S) p hr e.1 (by rw[zF];omega) (by omega)
    refine⟨S++T,k,?_,⟨g.1,λx=>?_⟩,?_⟩
    · show bD (f (j:Int) (a,d)) _=_
      have l:f (j:Int) (a,d)=_:=q
      rw[l,bG]
      show cntM f us.length ((j:Int)+1) (a++S,p)=_
      have:((j:Int)+1)=((j+1:Nat):Int):=rfl
      rw[this,m,List.append_assoc]
    · rw[g.2,e.2,zN,or_assoc]
    · rw[List.filter_cons,if_pos (by simpa using hm.1)]
      rw[e.eq]at c
      exact Dfs.cat hm.2 k1 c
  · obtain⟨T,k,m,g,c⟩:=oo us (j+1) a d hr hd ho hc
    refine⟨T,k,?_,g,?_⟩
    · show bD (f (j:Int) (a,d)) _=_
      have l:f (j:Int) (a,d)=_:=h1 hm
      rw[l,bG]
      exact m
    · rw[List.filter_cons]
      by_cases o:In M u
      · rw[if_pos (by simpa using o)]
        exact .skip (Classical.byContradiction λhn=>hm ⟨o,hn⟩) c
      · rw[if_neg (by simpa using o)]
        exact c
theorem ua:∀m,cv m=bV m
 | 0=>rfl
 | m+1=>by
  show cO (cv m)=cC (bV m)
  rw[ua m];rfl
theorem uR {T:List (List Int)}{M:List Bool}{n:Nat}{sc:Int->List Int}(C:T.length=n) (q:M.length=n) (hn:n<=256)
 (hr:∀v row,idx T v=some row->∀u∈row,0<=u/\u<n) (hs:∀v row,In M v->idx T v=some row->sc v=row.filter (λu=>decide (In M u))):
 ∀(m:Nat) (v:Int) (a:List Int) (d:List Bool),In M v->¬In d v->d.length=n->a.length<=cnt d->n<m+cnt d ->
 ∃S b,bV m v T a d M=some (a++S,b)/\Mk n d S b/\Dfs sc (In d) [v] S
 | 0,v,a,d,_,_,hd,_,hm=>absurd hm (by have:=mj d;omega)
 | m+1,v,a,d,hv,hdv,hd,r,hm=>by
  obtain⟨p,G⟩:=ik q hv
  obtain⟨y,hy,j⟩:=setT hd p G
  obtain⟨row,o⟩:=cT (xs:=T) (i:=v) p (by omega)
  have D:=j.cnt (by simp) (λx hx=>by rw[zG]at hx;subst hx;exact hdv)
  simp only[zI,zK]at D
  have I:=mj y
  obtain⟨S,l,w,g,k1⟩:=oo (f:=cz (bV m) T M row) (sc:=sc) (M:=M) (n:=n) (c0:=cnt y) row 0 a y (λi u a d s hd r hc=>by
   obtain⟨t,L⟩:=hr v row o u (bL s)
   unfold cz
   rw[Nat.zero_add,bT,s,bG,eG (B:=M) t (by omega),bG,eG (B:=d) t (by omega)]
   refine⟨λE=>?_,λh1 c=>?_⟩
   · by_cases h1:In M u
     · have c:In d u:=Classical.byContradiction λh=>E ⟨h1,h⟩
       simp only[decide_eq_true h1,decide_eq_true c,cond_true,bG,sh,cond_false]
     · simp only[decide_eq_false h1,cond_false,bG]
   · obtain⟨S,b,e,F,k⟩:=uR C q hn hr hs m u a d h1 c hd r (by omega)
     refine⟨S,b,?_,F,k⟩
     simp only[decide_eq_true h1,decide_eq_false c,cond_true,bG,Bool.not_false,e]) j.1 (by omega) (Nat.le_refl _)
  have H:=g.cnt k1.nodup k1.out
  have J:=mj l
  have K:l.length=n:=g.1
  refine⟨S++[v],l,?_,⟨g.1,λx=>?_⟩,?_⟩
  · show cC (bV m) v T a d M=_
    unfold cC
    rw[idxB hdv p (by omega),bG,hy,bG,o,bG]
    have z:cntM (cz (bV m) T M row) row.length 0 (a,y)=_:=w
    rw[z,bG,ca]
    unfold lz
    dsimp only
    rw[app1 (by rw[zF];omega) rfl,bG,bG,List.append_assoc]
  · rw[g.2,j.2,zN,zG]
    constructor
    · rintro((h | h) | h)
      · exact .inl h
      · exact .inr (.inr h)
      · exact .inr (.inl h)
    · rintro(h | h | h)
      · exact .inl (.inl h)
      · exact .inr h
      · exact .inl (.inr h)
  · rw[← hs v row hv o,j.eq]at k1
    have A:(λx=>In d x\/x∈[v])=λx=>In d x\/x=v:=funext λx=>propext (by rw[zG])
    rw[A]at k1
    exact Dfs.step hdv k1 .nil
end Go.Proofs.YtleekpaohfpooaaGreat
set_option linter.unusedVariables false
set_option linter.unusedSimpArgs false
namespace Go.Proofs.YtleekpaohfpooaaGreat
open Go Go.Wk Go.Proofs
open Classical
structure Gr (N:List (List Int)) (M:List Bool) (n:Nat):Prop where
 ln:N.length=n
 lm:M.length=n
 le:n<=256
 row:∀v r,idx N v=some r->r.length<=10000/\∀u∈r,0<=u/\u<n
noncomputable def scN (N:List (List Int)) (M:List Bool) (v:Int):List Int:=if In M v then((idx N v).getD []).filter (λu=>decide (In M u)) else[]
theorem g9 {N:List (List Int)}{M:List Bool}{v u:Int}:u∈scN N M v↔In M v/\In M u/\∃r,idx N v=some r/\u∈r:=by
 unfold scN
 by_cases h:In M v
 · rw[if_pos h,List.mem_filter,decide_eq_true_eq]
   cases e:idx N v with
   | none=>simp
   | some r=>simp[h,and_comm]
 · rw[if_neg h];simp[h]
def rowI' (N:List (List Int)) (v:Int):List Int:=(idx N v).getD []
def Far (sc:Int->List Int) (v:Int):Prop:=∃y∈sc v,Wy sc noV y v
def Far2 (sc:Int->List Int) (v u:Int):Prop:=∃y∈sc v,Wy sc noV y u
section
variable {sc:Int->List Int}
theorem Wy.far {v u:Int}(w:Wy sc noV v u) (h:v≠u):Far2 sc v u:=by
 cases w with
 | one _=>exact absurd rfl h
 | cons _ e w=>exact⟨_,e,w⟩
theorem Far2.wy {v u:Int}(h:Far2 sc v u):Wy sc noV v u:=by
 obtain⟨y,h1,a⟩:=h
 exact .cons id h1 a
theorem Wy.snoc_in {D:Int->Prop}{v u:Int}(w:Wy sc D v u):v=u\/∃z,u∈sc z:=by
 induction w with
 | one _=>exact .inl rfl
 | cons _ e _ a=>
  rcases a with h | h
  · subst h;exact .inr ⟨_,e⟩
  · exact .inr h
theorem pL {v u:Int}(h:Akin sc v u) (a:v≠u):Far sc v/\Far sc u:=by
 obtain⟨y,h1,b⟩:=h.1.far a
 obtain⟨z,c,d⟩:=h.2.far (Ne.symm a)
 exact⟨⟨y,h1,b.trans h.2⟩,⟨z,c,d.trans h.1⟩⟩
theorem Far.akin {v u:Int}(h:Far sc v) (k:Akin sc v u):Far sc u:=by
 by_cases e:v=u
 · subst e;exact h
 · exact(pL k e).2
end
theorem n8 (B:List Bool) (j:Nat):Asc (gA B j):=by
 unfold gA
 rw[Asc,List.pairwise_map]
 refine List.Pairwise.filter _ ?_
 exact List.pairwise_lt_range.imp λh=>by
  show(_:Int)<_
  exact Int.ofNat_lt.2 h
noncomputable def partG (N:List (List Int)) (M:List Bool) (v:Int):List Int:=(gA M M.length).filter (λu=>decide (Akin (scN N M) v u))
def Lead (sc:Int->List Int) (v:Int):Prop:=Far sc v/\∀w,w<v->¬Akin sc w v
noncomputable def loopsN (N:List (List Int)) (M:List Bool):List (List Int):=((gA M M.length).filter (λv=>decide (Lead (scN N M) v))).map (partG N M)
section
variable {N:List (List Int)}{M:List Bool}
theorem fR {v u:Int}:u∈partG N M v↔In M u/\Akin (scN N M) v u:=by
 unfold partG
 rw[List.mem_filter,el,decide_eq_true_eq]
theorem lT (v:Int):Asc (partG N M v):=(n8 _ _).filter _
theorem tC {v u:Int}(h:Akin (scN N M) v u):partG N M v=partG N M u:=
 nW (lT _) (lT _) λz=>by
  rw[fR,fR]
  exact⟨λ⟨a,b⟩=>⟨a,h.symm.trans b⟩,λ⟨a,b⟩=>⟨a,h.trans b⟩⟩
theorem mQ {v:Int}(h:Far (scN N M) v):In M v:=by
 obtain⟨y,h1,_⟩:=h
 exact(g9.1 h1).1
def hdI (l:List Int):Int:=l.headD 0
theorem qn {v:Int}(h:Far (scN N M) v):∃t,partG N M v=hdI (partG N M v)::t/\Akin (scN N M) v (hdI (partG N M v))/\Lead (scN N M) (hdI (partG N M v)):=by
 have f:v∈partG N M v:=fR.2 ⟨mQ h,Akin.refl v⟩
 cases e:partG N M v with
 | nil=>rw[e]at f;cases f
 | cons x t=>
  have hx:x∈partG N M v:=by rw[e];simp
  obtain⟨a,b⟩:=fR.1 hx
  refine⟨t,rfl,b,h.akin b,λw d hk=>?_⟩
  have i:Akin (scN N M) v w:=b.trans hk.symm
  have g:w∈partG N M v:=fR.2 ⟨mQ (h.akin i),i⟩
  rw[e]at g
  have hp:Asc (x::t):=by rw[← e];exact lT v
  rcases List.mem_cons.1 g with c | c
  · have:w<w:=by rw[← c]at d;exact d
    omega
  · have:=(List.pairwise_cons.1 hp).1 w c
    have:w<x:=d
    omega
theorem xO {v:Int}(h:Lead (scN N M) v):hdI (partG N M v)=v:=by
 obtain⟨t,h1,e,f⟩:=qn h.1
 have a:=h.2 (hdI (partG N M v))
 have b:=f.2 v
 have c:¬hdI (partG N M v)<v:=λk=>a k e.symm
 have d:¬v<hdI (partG N M v):=λk=>b k e
 omega
theorem xQ {a b:Int}{s t:List Int}(h:leI (a::s) (b::t)=true) (c:a≠b):a<b:=by
 unfold leI lexI at h
 have:¬Go.Lib.compareInt a b=0:=λe=>c (cmpI_eq.1 e)
 rw[if_neg this,decide_eq_true_eq]at h
 exact cmpI_lt.1 (by omega)
theorem uP {P:List (List Int)}(h1:∀S∈P,∃v,Far (scN N M) v/\S=partG N M v) (p:∀v,Far (scN N M) v->partG N M v∈P) (q:P.Pairwise (λS T=>∀x∈S,x∉T)):P.mergeSort leI=loopsN N M:=by
 have j:∀S∈P,S=partG N M (hdI S)/\Lead (scN N M) (hdI S)/\∃t,S=hdI S::t:=λS d=>by
  obtain⟨v,o,e⟩:=h1 S d
  obtain⟨t,k1,m,n⟩:=qn o
  rw[← e]at k1 m n
  exact⟨e.trans (tC m),n,t,k1⟩
 have k:=List.mergeSort_perm P leI
 have f:∀S∈P.mergeSort leI,S=partG N M (hdI S)/\Lead (scN N M) (hdI S)/\∃t,S=hdI S::t:=λS d=>j S (k.mem_iff.1 d)
 have w:(P.map hdI).Nodup:=by
  rw[List.Nodup,List.pairwise_map]
  refine q.imp_of_mem λ{S T} d i hd e=>?_
  obtain⟨_,_,s,g⟩:=j S d
  obtain⟨_,_,t,et⟩:=j T i
  refine hd (hdI S) (by rw[g];simp[hdI]) ?_
  rw[et,← e];simp[hdI]
 have l:((P.mergeSort leI).map hdI).Nodup:=((k.map hdI).nodup_iff).2 w
 have y:(P.mergeSort leI).Pairwise (λa b=>leI a b=true):=List.pairwise_mergeSort (λa b c=>leI_trans a b c) (λa b=>leI_total a b) P
 have r:Asc ((P.mergeSort leI).map hdI):=by
  rw[Asc,List.pairwise_map]
  rw[List.Nodup,List.pairwise_map]at l
  refine(List.Pairwise.and y l).imp_of_mem λ{S T} d i ⟨a,b⟩=>?_
  obtain⟨_,_,s,g⟩:=f S d
  obtain⟨_,_,t,et⟩:=f T i
  rw[g,et]at a
  exact xQ a b
 have u:(P.mergeSort leI)=((P.mergeSort leI).map hdI).map (partG N M):=by
  rw[List.map_map]
  conv=>lhs;rw[← List.map_id (P.mergeSort leI)]
  exact List.map_congr_left λS d=>(f S d).1
 rw[u]
 unfold loopsN
 congr 1
 refine nW r ((n8 _ _).filter _) λz=>?_
 rw[List.mem_map,List.mem_filter,el,decide_eq_true_eq]
 constructor
 · rintro⟨S,d,rfl⟩
   exact⟨mQ (f S d).2.1.1,(f S d).2.1⟩
 · rintro⟨_,hl⟩
   exact⟨partG N M z,k.mem_iff.2 (p z hl.1),xO hl⟩
end
end Go.Proofs.YtleekpaohfpooaaGreat
set_option linter.unusedVariables false
set_option linter.unusedSimpArgs false
namespace Go.Proofs.YtleekpaohfpooaaGreat
open Go Go.Wk Go.Proofs
open Classical
section
variable {N:List (List Int)}{M:List Bool}{n:Nat}(g:Gr N M n)
include g
theorem xC:∃B,cntM (fC N M) N.length 0 (bK n [])=some (.inr B)/\B.length=n/\∀u:Int,0<=u->u<n->∃r,idx B u=some r/\∀v,v∈r↔u∈scN N M v:=by
 have hn:=g.le
 obtain⟨B,h1,a,b⟩:=cJ (f:=fC N M) (λj (B:List (List Int))=>B.length=n/\∀u:Int,0<=u->u<n->∃r,idx B u=some r/\r.length<=j * 10000/\∀v,v∈r↔v<(j:Int)/\u∈scN N M v) N.length (s:=bK n []) ⟨by simp,λu c l=>⟨[],by rw[cY c,List.getElem?_replicate,if_pos (by omega)],by simp,λv=>by
  constructor
  · intro h;cases h
  · rintro⟨h,k⟩
    have:=(ik g.lm (g9.1 k).1).1
    omega⟩⟩ (λj B hj ⟨E,F⟩=>by
  have m:N[j]? =some N[j]:=bI hj
  generalize N[j]=row at m
  obtain⟨P,K⟩:=g.row (j:Int) row (by rw[bT];exact m)
  unfold fC
  rw[bT,m,bG]
  have O:j<n:=by rw[← g.ln];exact hj
  obtain⟨C,k1,I,J⟩:=cJ (f:=jh M (j:Int) row) (λi (B:List (List Int))=>B.length=n/\∀u:Int,0<=u->u<n->∃r,idx B u=some r/\r.length<=j * 10000+i/\∀v,v∈r↔(v<(j:Int)/\u∈scN N M v)\/(v=(j:Int)/\In M v/\In M u/\u∈row.take i)) row.length (s:=B) ⟨E,λu c l=>by
   obtain⟨r,c1,c2,d⟩:=F u c l
   exact⟨r,c1,Nat.le_trans c2 (Nat.le_add_right _ _),λv=>by rw[d];simp⟩⟩ (λi B G ⟨y,p⟩=>by
   have o:row[i]? =some row[i]:=bI G
   generalize row[i]=c at o
   obtain⟨w,L⟩:=K c (bL o)
   have q:row.take (i+1)=row.take i++[c]:=by rw[zO,o];rfl
   have D:¬(In M (j:Int)/\In M c)->∀u:Int,0<=u->u<n->∃r,idx B u=some r/\r.length<=j * 10000+(i+1)/\∀v,v∈r↔(v<(j:Int)/\u∈scN N M v)\/(v=(j:Int)/\In M v/\In M u/\u∈row.take (i+1)):=λH u t x=>by
    obtain⟨r,c1,c2,d⟩:=p u t x
    refine⟨r,c1,by omega,λv=>?_⟩
    rw[d,q]
    constructor
    · rintro(h | ⟨h,h1,a,b⟩)
      · exact .inl h
      · exact .inr ⟨h,h1,a,List.mem_append_left _ b⟩
    · rintro(h | ⟨h,h1,a,b⟩)
      · exact .inl h
      · rcases zN.1 b with b | b
        · exact .inr ⟨h,h1,a,b⟩
        · rw[zG]at b
          exact absurd ⟨h ▸ h1,b ▸ a⟩ H
   unfold jh
   rw[bT,o,bG,eG (B:=M) (by omega) (by rw[g.lm];omega),bG,eG (B:=M) w (by rw[g.lm];omega)]
   by_cases h1:In M (j:Int)
   · by_cases a:In M c
     · obtain⟨r,c1,c2,d⟩:=p c w L
       obtain⟨B',A,hl⟩:=eu (xs:=B) (i:=c) (r++[(j:Int)]) w (by omega)
       simp only[decide_eq_true h1,decide_eq_true a,cond_true,bG,c1,app1 (show r.length<=10000000000 by omega) (show Nat.ble 8 1024=true from rfl),A]
       refine⟨_,rfl,by omega,λu t x=>?_⟩
       rw[fa A]
       by_cases e:u=c
       · subst e
         rw[if_pos rfl]
         refine⟨_,rfl,by rw[zF];simp only[zI,zK];omega,λv=>?_⟩
         rw[zN,d,zG,q]
         constructor
         · rintro((h | ⟨h,h1,a,b⟩) | h)
           · exact .inl h
           · exact .inr ⟨h,h1,a,List.mem_append_left _ b⟩
           · subst h;exact .inr ⟨rfl,h1,a,by simp⟩
         · rintro(h | ⟨h,h1,a,b⟩)
           · exact .inl (.inl h)
           · exact .inr h
       · rw[if_neg e]
         obtain⟨r,c1,c2,d⟩:=p u t x
         refine⟨r,c1,by omega,λv=>?_⟩
         rw[d,q,zN,zG]
         simp[e]
     · simp only[decide_eq_true h1,decide_eq_false a,cond_true,bG,cond_false]
       exact⟨_,rfl,y,D λh=>a h.2⟩
   · simp only[decide_eq_false h1,bG,cond_false]
     exact⟨_,rfl,y,D λh=>h1 h.1⟩)
  rw[k1,bG,ca]
  refine⟨_,rfl,I,λu c l=>?_⟩
  obtain⟨r,c1,c2,d⟩:=J u c l
  refine⟨r,c1,by omega,λv=>?_⟩
  rw[d,List.take_length]
  constructor
  · rintro(⟨h,k⟩ | ⟨h,h1,a,b⟩)
    · exact⟨by omega,k⟩
    · subst h
      exact⟨by omega,g9.2 ⟨h1,a,row,by rw[bT];exact m,b⟩⟩
  · rintro⟨h,k⟩
    by_cases e:v=(j:Int)
    · subst e
      obtain⟨h1,a,r',z,b⟩:=g9.1 k
      rw[bT,m]at z
      cases z
      exact .inr ⟨rfl,h1,a,b⟩
    · exact .inl ⟨by omega,k⟩)
 refine⟨B,h1,a,λu c l=>?_⟩
 obtain⟨r,c1,c2,d⟩:=b u c l
 refine⟨r,c1,λv=>?_⟩
 rw[d]
 refine⟨λh=>h.2,λh=>⟨?_,h⟩⟩
 have:=(ik g.lm (g9.1 h).1).2
 rw[g.ln];exact this
def Many (N:List (List Int)) (S:List Int):Prop:=1<S.length\/∃v∈S,∃r,idx N v=some r/\v∈r
noncomputable def keepP (N:List (List Int)) (P:List (List Int)):List (List Int):=(P.filter (λS=>decide (Many N S))).map λS=>S.mergeSort λx y=>decide (x<=y)
theorem nL {B:List (List Int)}{bk:Int->List Int}(hB:B.length=n) (o:∀v row,idx B v=some row->∀u∈row,0<=u/\u<n) (m:∀v row,In M v->idx B v=some row->bk v=row.filter (λu=>decide (In M u)))
 {L:List Int} {d0:List Bool} (C:L.length<=256) (l:∀v∈L,In M v):
 ∀(k:Nat) (P0:List (List Int)) (d:List Bool) (F:Nat),k<=L.length->P0.length+k<=1000->d.length=n->k<F ->
 ∃P a,cu (dH N M B (L,d0)) F (P0,(k:Int)-1,d)=some (.inr (P0++keepP N P,-1,a))/\Kos bk (In d) ((L.take k).reverse) P
 | _,_,_,0,_,_,_,h=>absurd h (Nat.not_lt_zero _)
 | 0,P0,d,F+1,_,_,hd,_=>⟨[],d,by
  show bD (dH N M B (L,d0) (P0,((0:Nat):Int)-1,d)) _=_
  have:keepP N []=[]:=rfl
  rw[this,List.append_nil]
  rfl,.nil⟩
 | k+1,P0,d,F+1,hk,hP,hd,hF=>by
  have hn:=g.le
  have hx:L[k]? =some L[k]:=bI (by omega)
  generalize L[k]=x at hx
  have K:=l x (bL hx)
  obtain⟨E,aa⟩:=ik g.lm K
  have V:(L.take (k+1)).reverse=x::(L.take k).reverse:=by rw[zO,hx];simp
  have O:((k+1:Nat):Int)-1=(k:Int):=by omega
  have G:IntKind.i64.wrap ((k:Int)-1)=(k:Int)-1:=wr' (by omega) (by omega)
  rw[V,O]
  show ∃P a,bD (dH N M B (L,d0) (P0,(k:Int),d)) _=_/\_
  by_cases b:In d x
  · obtain⟨P,a,w,f⟩:=nL hB o m C l k P0 d F (by omega) (by omega) hd (by omega)
    have st:dH N M B (L,d0) (P0,(k:Int),d)=some (.inr (.inr (P0,(k:Int)-1,d))):=by
     unfold dH
     dsimp only
     rw[decide_eq_true (show(0:Int)<=(k:Int) by omega),cond_true,bT,hx,bG,eG (B:=d) E (by omega),bG,G,decide_eq_true b,cond_true]
    rw[st,bG]
    exact⟨P,a,w,.skip b f⟩
  · obtain⟨S,j,Z,A,k1⟩:=uR hB g.lm hn o m (2 ^ 64) x [] d K b hd (Nat.zero_le _) (by have:=mj d;omega)
    have c:x∈S:=(k1.mem_iff x).2 ⟨x,by simp,.one b⟩
    have H:0<S.length:=List.length_pos_of_mem c
    have af:=A.cnt k1.nodup k1.out
    have ae:=mj j
    have I:=A.1
    obtain⟨Y,D⟩:=cT (xs:=N) (i:=x) E (by rw[g.ln];exact aa)
    have Q:(bD (bif decide (1<(S.length:Int)) then some true else bD (idx N x) λab=>bD (bW ab x) λac=>some ac) λp=>if p=decide (Many N S) then some () else none)=some ():=by
     by_cases h1:1<S.length
     · rw[decide_eq_true (show(1:Int)<(S.length:Int) by omega),cond_true,bG,if_pos]
       exact(decide_eq_true (.inl h1)).symm
     · rw[decide_eq_false (show ¬(1:Int)<(S.length:Int) by omega),cond_false,D,bG,cK,bG,bG,if_pos]
       rw[Bool.eq_iff_iff,List.any_eq_true,decide_eq_true_eq]
       constructor
       · rintro⟨y,hy,e⟩
         have:x=y:=by simpa using e
         exact .inr ⟨x,c,Y,D,this ▸ hy⟩
       · rintro(h | ⟨v,s,r,hr,W⟩)
         · exact absurd h h1
         · have X:v=x:=by
            match S,H,h1,c,s with
            | [y],_,_,c,s=>
             rw[zG]at c s
             rw[c,s]
            | y::z::t,_,h1,_,_=>simp at h1
           subst X
           rw[D]at hr
           cases hr
           exact⟨v,W,by simp⟩
    obtain⟨p,T,J⟩:=Option.bind_eq_some_iff.1 Q
    have hp:p=decide (Many N S):=Classical.byContradiction λR=>by rw[if_neg R]at J;cases J
    have U:c7 S=some (S.mergeSort λx y=>decide (x<=y)):=by
     unfold c7
     rw[if_pos ⟨H,by omega⟩]
    have st:dH N M B (L,d0) (P0,(k:Int),d)=bD (bif decide (Many N S) then bD (appS 24 P0 [S.mergeSort λx y=>decide (x<=y)]) λad=>some ad else some P0) λq=>some (.inr (.inr (q,(k:Int)-1,j))):=by
     unfold dH
     dsimp only
     rw[decide_eq_true (show(0:Int)<=(k:Int) by omega),cond_true,bT,hx,bG,eG (B:=d) E (by omega),bG,G,decide_eq_false b,cond_false,ua,Z,bG]
     dsimp only
     rw[List.nil_append,U,bG,T,bG,hp]
    by_cases hm:Many N S
    · have ha:appS 24 P0 [S.mergeSort λx y=>decide (x<=y)]=some (P0++[S.mergeSort λx y=>decide (x<=y)]):=app1 (by omega) rfl
      obtain⟨P,a,w,f⟩:=nL hB o m C l k (P0++[S.mergeSort λx y=>decide (x<=y)]) j F (by omega) (by simp only[zF,zI,zK];omega) I (by omega)
      rw[st,decide_eq_true hm,cond_true,ha,bG,bG,bG]
      refine⟨S::P,a,?_,?_⟩
      · have:keepP N (S::P)=(S.mergeSort λx y=>decide (x<=y))::keepP N P:=by
         unfold keepP
         rw[List.filter_cons,if_pos (decide_eq_true hm)];rfl
        rw[this]
        rw[List.append_assoc]at w
        exact w
      · refine .step b k1 ?_
        rw[← A.eq];exact f
    · obtain⟨P,a,w,f⟩:=nL hB o m C l k P0 j F (by omega) (by omega) I (by omega)
      rw[st,decide_eq_false hm,cond_false,bG,bG]
      refine⟨S::P,a,?_,?_⟩
      · have:keepP N (S::P)=keepP N P:=by
         unfold keepP
         rw[List.filter_cons,if_neg (by simpa using hm)]
        rw[this];exact w
      · refine .step b k1 ?_
        rw[← A.eq];exact f
theorem xI:lP N M=some (loopsN N M):=by
 have hn:=g.le
 obtain⟨B,ak,am,U⟩:=xC g
 have aa:∀v u,u∈rowI' B v↔v∈scN N M u:=λv u=>by
  unfold rowI'
  constructor
  · intro h
    cases e:idx B v with
    | none=>rw[e]at h;cases h
    | some r=>
     rw[e]at h
     obtain⟨C,R⟩:=dq e
     obtain⟨r',c1,c2⟩:=U v C (by omega)
     rw[e]at c1;cases c1
     exact(c2 u).1 h
  · intro h
    obtain⟨C,R⟩:=ik g.lm (g9.1 h).2.1
    obtain⟨r',c1,c2⟩:=U v C R
    rw[c1];exact(c2 u).2 h
 have Z:∀v u,u∈rowI' B v->In M v/\In M u:=λv u h=>by
  obtain⟨a,b,_⟩:=g9.1 ((aa v u).1 h)
  exact⟨b,a⟩
 have J:∀v row,idx B v=some row->rowI' B v=row:=λv row e=>by unfold rowI';rw[e];rfl
 have au:∀v row,idx B v=some row->rowI' B v=row.filter (λu=>decide (In M u)):=λv row e=>by
  rw[J v row e]
  symm
  rw[List.filter_eq_self]
  intro u m
  rw[← J v row e]at m
  exact decide_eq_true (Z v u m).2
 have ar:∀v row,idx B v=some row->∀u∈row,0<=u/\u<n:=λv row e u m=>by
  rw[← J v row e]at m
  exact ik g.lm (Z v u m).2
 have hs:∀v row,In M v->idx N v=some row->scN N M v=row.filter (λu=>decide (In M u)):=λv row h e=>by
  unfold scN
  rw[if_pos h,e];rfl
 have h0:∀x,¬In (bK n false) x:=λx hx=>by
  obtain⟨aE,aH⟩:=ik (n:=n) (by simp) hx
  unfold In at hx
  rw[cY aE,List.getElem?_replicate,if_pos (by omega)]at hx
  cases hx
 have s:In (bK n false)=noV:=funext λx=>propext ⟨λh=>h0 x h,λh=>h.elim⟩
 have af:((List.range n).map Int.ofNat).length=n:=by simp
 obtain⟨L,G,W,aj,k1⟩:=oo (f:=gU N M) (sc:=scN N M) (M:=M) (n:=n) (c0:=0) ((List.range n).map Int.ofNat) 0 [] (bK n false) (λi u az d m hd av _=>by
  have H:i<n:=by have:=(bJ.1 m).1;rwa [af]at this
  have ax:u=(i:Int):=by
   rw[List.getElem?_map,List.getElem?_range H]at m
   exact(Option.some.inj m).symm
  subst ax
  rw[Nat.zero_add]
  unfold gU
  dsimp only
  rw[eG (B:=M) (by omega) (by rw[g.lm];omega),bG,eG (B:=d) (by omega) (by omega)]
  refine⟨λs=>?_,λh1 o=>?_⟩
  · by_cases h1:In M (i:Int)
    · have o:In d (i:Int):=Classical.byContradiction λh=>s ⟨h1,h⟩
      simp only[decide_eq_true h1,decide_eq_true o,cond_true,bG,sh,cond_false]
    · simp only[decide_eq_false h1,cond_false,bG]
  · obtain⟨S,V,e,ay,k⟩:=uR g.ln g.lm hn (λv row e=>(g.row v row e).2) hs (2 ^ 64) (i:Int) az d h1 o hd av (by have:=mj d;omega)
    refine⟨S,V,?_,ay,k⟩
    simp only[decide_eq_true h1,decide_eq_false o,cond_true,bG,Bool.not_false,e]) (by simp) (Nat.zero_le _) (Nat.zero_le _)
 rw[af]at W
 rw[s]at k1
 have Y:∀v,v∈L->In M v:=λv j=>by
  obtain⟨u,m,w⟩:=(k1.mem_iff v).1 j
  have aw:In M u:=by simpa using (List.mem_filter.1 m).2
  cases w.snoc_in with
  | inl h=>exact h ▸ aw
  | inr h=>obtain⟨z,Q⟩:=h;exact(g9.1 Q).2.1
 have X:∀v,In M v->v∈L:=λv j=>(k1.mem_iff v).2 ⟨v,List.mem_filter.2 ⟨by
  obtain⟨C,R⟩:=ik g.lm j
  obtain⟨i,H⟩:=dy C
  subst H
  exact List.mem_map.2 ⟨i,List.mem_range.2 (by omega),rfl⟩,by simpa using j⟩,.one id⟩
 have ap:L.length<=256:=by
  have:=aj.cnt k1.nodup (λx _=>h0 x)
  have:=mj G
  have:=aj.1
  omega
 obtain⟨P,V,w,ai⟩:=nL g (d0:=G) am ar (λv row _ e=>au v row e) ap Y L.length [] (bK n false) (2 ^ 64) (Nat.le_refl _) (by simp only[zK];omega) (by simp) (by omega)
 rw[List.take_length,s]at ai
 obtain⟨F,aA,aB,aG⟩:=vR aa k1 (λa b hb=>X a (g9.1 hb).1) noV L.reverse P ai [] (by simp) (λx=>⟨λh=>h.elim,λ⟨q,h,_⟩=>by cases h⟩)
 have D:∀S∈P,∀v∈S,(∀x,x∈S↔Akin (scN N M) v x)/\In M v:=λS c v j=>by
  obtain⟨_,aC,h1,_,o⟩:=F S c
  have O:=(o v).1 j
  refine⟨λx=>by rw[o];exact⟨λh=>O.symm.trans h,λh=>O.trans h⟩,?_⟩
  by_cases e:aC=v
  · subst e;exact Y _ (List.mem_reverse.1 h1)
  · exact mQ (pL O e).2
 have ac:∀S∈P,∀v∈S,(S.mergeSort λx y=>decide (x<=y))=partG N M v:=λS c v j=>by
  obtain⟨I,_⟩:=F S c
  obtain⟨h1,o⟩:=D S c v j
  refine nW (tZ I) (lT _) λz=>?_
  rw[(List.mergeSort_perm S _).mem_iff,fR]
  exact⟨λh=>⟨(D S c z h).2,(h1 z).1 h⟩,λh=>(h1 z).2 h.2⟩
 have ab:∀S∈P,∀v∈S,Many N S↔Far (scN N M) v:=λS c v j=>by
  obtain⟨h1,o⟩:=D S c v j
  obtain⟨I,_⟩:=F S c
  constructor
  · rintro(h | ⟨u,m,r,hr,K⟩)
    · have:∃z∈S,z≠v:=Classical.byContradiction λs=>by
       have:S.length<=[v].length:=oW I λx hx=>zG.2 (Classical.byContradiction λp=>s ⟨x,hx,p⟩)
       simp only[zI,zK]at this
       omega
      obtain⟨z,Q,p⟩:=this
      exact(pL ((h1 z).1 Q) (Ne.symm p)).1
    · have ae:=(D S c u m).2
      have:Far (scN N M) u:=⟨u,g9.2 ⟨ae,ae,r,hr,K⟩,.one id⟩
      exact this.akin ((h1 u).1 m).symm
  · rintro⟨y,hy,aD⟩
    by_cases h:1<S.length
    · exact .inl h
    · have E:y∈S:=(h1 y).2 ⟨.cons id hy (.one id),aD⟩
      have:y=v:=by
       match S,h,j,E with
       | [a],_,j,E=>rw[zG]at j E;rw[j,E]
       | a::b::t,h,_,_=>simp at h
      subst this
      obtain⟨_,_,r,hr,K⟩:=g9.1 hy
      exact .inr ⟨y,j,r,hr,K⟩
 have p:∀S∈P,∃v,v∈S:=λS c=>by
  obtain⟨_,v,_,_,h⟩:=F S c
  exact⟨v,(h v).2 (Akin.refl v)⟩
 have ad:(keepP N P).mergeSort leI=loopsN N M:=by
  refine uP (λT A=>?_) (λv j=>?_) ?_
  · unfold keepP at A
    obtain⟨S,c,rfl⟩:=List.mem_map.1 A
    obtain⟨c,hm⟩:=List.mem_filter.1 c
    obtain⟨v,j⟩:=p S c
    exact⟨v,(ab S c v j).1 (of_decide_eq_true hm),ac S c v j⟩
  · rcases aA v (List.mem_reverse.2 (X v (mQ j))) with h | ⟨S,c,ag⟩
    · exact h.elim
    · unfold keepP
      exact List.mem_map.2 ⟨S,List.mem_filter.2 ⟨c,decide_eq_true ((ab S c v ag).2 j)⟩,ac S c v ag⟩
  · unfold keepP
    rw[List.pairwise_map]
    refine(aB.filter _).imp λ{S T} h x hx ah=>?_
    rw[(List.mergeSort_perm _ _).mem_iff]at hx ah
    exact h x hx ah
 have aF:(keepP N P).length<=1000:=by
  have h1:(loopsN N M).length<=n:=by
   unfold loopsN
   rw[zQ]
   exact Nat.le_trans (List.length_filter_le _ _) (Nat.le_trans (mq _ _) (by rw[g.lm];exact Nat.le_refl _))
  rw[← ad,List.length_mergeSort]at h1
  omega
 have aq:((keepP N P).all λl=> !l.isEmpty)=true:=by
  rw[List.all_eq_true]
  intro T A
  unfold keepP at A
  obtain⟨S,c,rfl⟩:=List.mem_map.1 A
  obtain⟨v,j⟩:=p S (List.mem_filter.1 c).1
  have:=(List.mergeSort_perm S λx y=>decide (x<=y)).mem_iff.2 j
  cases e:(S.mergeSort λx y=>decide (x<=y)) with
  | nil=>rw[e]at this;cases this
  | cons _ _=>rfl
 have ao:IntKind.i64.wrap ((L.length:Int)-1)=(L.length:Int)-1:=wr' (by omega) (by omega)
 have an:cntM (gU N M) n 0 (([]:List Int),bK n false)=some (.inr (L,G)):=by
  rw[← List.nil_append L];exact W
 have al:cntM (fC N M) n 0 (bK n [])=some (.inr B):=by rw[← ak,g.ln]
 unfold lP
 rw[g.ln,gh (by omega) rfl,bG,al,bG,ca,gh (by omega) rfl,bG,an,bG,ca,bG]
 dsimp only
 rw[ao,w,bG,ca]
 dsimp only
 rw[List.nil_append]
 unfold eT
 rw[if_pos ⟨by omega,aq⟩,bG,ad]
end
end Go.Proofs.YtleekpaohfpooaaGreat
set_option linter.unusedVariables false
set_option linter.unusedSimpArgs false
namespace Go.Proofs.YtleekpaohfpooaaGreat
open Go Go.Wk Go.Proofs
open Classical
def Lv (sc:Int->List Int) (s:Int):Nat->Int->Prop
 | 0,k=>k=s
 | t+1,k=>∃u∈sc k,Lv sc s t u
def Dm (sc:Int->List Int) (s k:Int) (d:Nat):Prop:=Lv sc s d k/\∀e,e<d->¬Lv sc s e k
section
variable {sc:Int->List Int}{s k:Int}
theorem Dm.uniq {d e:Nat}(h:Dm sc s k d) (c:Dm sc s k e):d=e:=by
 have a:=h.2 e
 have b:=c.2 d
 have:¬e<d:=λx=>a x c.1
 have:¬d<e:=λx=>b x h.1
 omega
theorem Lv.min {d:Nat}:Lv sc s d k->∃e,e<=d/\Dm sc s k e:=by
 induction d using Nat.strongRecOn with
 | ind d ih=>
  intro h
  by_cases hm:∃e,e<d/\Lv sc s e k
  · obtain⟨e,b,a⟩:=hm
    obtain⟨c,f,hd⟩:=ih e b a
    exact⟨c,by omega,hd⟩
  · exact⟨d,Nat.le_refl _,h,λe b a=>hm ⟨e,b,a⟩⟩
theorem Dm.next {d:Nat}(h:Dm sc s k (d+1)):∃u∈sc k,Dm sc s u d:=by
 obtain⟨u,h1,b⟩:=h.1
 exact⟨u,h1,b,λe c a=>h.2 (e+1) (by omega) ⟨u,h1,a⟩⟩
theorem Lv.wy:∀{d:Nat}{k:Int},Lv sc s d k->Wy sc noV k s
 | 0,k,h=>by
  have h:k=s:=h
  subst h;exact .one id
 | d+1,k,⟨u,h1,h2⟩=> .cons id h1 (Lv.wy h2)
theorem Wy.lv {k:Int}(w:Wy sc noV k s):∃d,Lv sc s d k:=by
 induction w with
 | one _=>exact⟨0,rfl⟩
 | cons _ e _ a=>
  obtain⟨d,h⟩:=a
  exact⟨d+1,_,e,h⟩
end
def At (sc:Int->List Int) (s:Int) (t:Nat) (k x:Int):Prop:=(x= -1/\∀d,d<=t->¬Lv sc s d k)\/∃d:Nat,x=(d:Int)/\d<=t/\Dm sc s k d
theorem At.is {sc:Int->List Int}{s k x:Int}{t t':Nat}(ht:t<=t') (h:At sc s t' k x):(x=(t:Int)↔Dm sc s k t):=by
 rcases h with ⟨h1,a⟩ | ⟨d,h1,a,b⟩
 · exact⟨λh=>by omega,λh=>absurd h.1 (a t ht)⟩
 · exact⟨λh=>(show d=t by omega) ▸ b,λh=>by have:=b.uniq h;omega⟩
section
variable {N:List (List Int)}{M:List Bool}{n:Nat}(g:Gr N M n)
include g
end
noncomputable def hitN (N:List (List Int)) (M:List Bool) (S:List Int):List Int:=S.filter λs=>decide (In M s/\Far (scN N M) s)
end Go.Proofs.YtleekpaohfpooaaGreat
set_option linter.unusedVariables false
set_option linter.unusedSimpArgs false
namespace Go.Proofs.YtleekpaohfpooaaGreat
open Go Go.Wk Go.Proofs
open Classical
def mayM (n:Nat) (S:List Int):List Bool:=(List.range n).map λi:Nat=> !decide ((i:Int)∈S)
theorem kL (n:Nat) (S:List Int):(mayM n S).length=n:=by simp[mayM]
theorem vm {n:Nat}{S:List Int}(v:Int):In (mayM n S) v↔(0<=v/\v<n)/\v∉S:=by
 constructor
 · intro h
   obtain⟨a,c⟩:=ik (kL n S) h
   obtain⟨i,b⟩:=dy a
   subst b
   unfold In mayM at h
   rw[bT,List.getElem?_map,List.getElem?_range (by omega)]at h
   exact⟨⟨a,c⟩,by simpa using h⟩
 · rintro⟨⟨a,c⟩,h⟩
   obtain⟨i,b⟩:=dy a
   subst b
   unfold In mayM
   rw[bT,List.getElem?_map,List.getElem?_range (by omega)]
   simp[h]
noncomputable def hitP (N:List (List Int)) (p:Pair):List Int:=hitN N (mayM N.length p.Give) p.Ask
structure Gn (N:List (List Int)) (n:Nat):Prop where
 ln:N.length=n
 le:n<=256
 row:∀v r,idx N v=some r->r.length<=10000/\∀u∈r,0<=u/\u<n
theorem Gn.gr {N:List (List Int)}{n:Nat}(g:Gn N n) (S:List Int):Gr N (mayM n S) n:=⟨g.ln,kL n S,g.le,g.row⟩
section
variable {N:List (List Int)}{n:Nat}(g:Gn N n)
include g
omit g in
theorem wF {p:Pair}(a:St n p.Ask):Asc (hitP N p):=a.asc.filter _
theorem pQ {p:Pair}(z:Int):z∈hitP N p↔z∈p.Ask/\Far (scN N (mayM n p.Give)) z:=by
 unfold hitP hitN
 rw[g.ln,List.mem_filter,decide_eq_true_eq]
 exact⟨λ⟨a,_,b⟩=>⟨a,b⟩,λ⟨a,b⟩=>⟨a,mQ b,b⟩⟩
theorem vP {w:watch}(c:w.next=N) (S:List Int):fK w S=some (mayM n S):=by
 have hn:=g.le
 unfold fK
 rw[c,g.ln,gh (by omega) rfl,bG,List.length_replicate]
 obtain⟨M,h1,d,b⟩:=fill (f:=eh S) (λj=> !decide ((j:Int)∈S)) n (s0:=bK n false) (by simp) (λj s hj hs=>by
  unfold eh
  rw[conI,bG])
 rw[h1,bG,ca]
 congr 1
 refine List.ext_getElem? λi=>?_
 by_cases a:i<n
 · rw[← bT,b i a]
   unfold mayM
   rw[List.getElem?_map,List.getElem?_range a];rfl
 · rw[List.getElem?_eq_none (by omega),List.getElem?_eq_none (by rw[kL];omega)]
theorem vQ {w:watch}(r:w.next=N){p:Pair}(u:St n p.Ask):fL w p=some (hitP N p):=by
 have hn:=g.le
 have C:=g.gr p.Give
 unfold fL
 rw[vP g r,bG,r,xI C,bG]
 have F:∀S∈loopsN N (mayM n p.Give),S.length<=256:=λS c=>by
  unfold loopsN at c
  obtain⟨v,_,rfl⟩:=List.mem_map.1 c
  unfold partG
  have:=mq (mayM n p.Give) (mayM n p.Give).length
  rw[kL]at this
  exact Nat.le_trans (List.length_filter_le _ _) (by rw[kL];omega)
 have G:(loopsN N (mayM n p.Give)).length<=256:=by
  unfold loopsN
  rw[zQ]
  have:=mq (mayM n p.Give) (mayM n p.Give).length
  rw[kL]at this
  exact Nat.le_trans (List.length_filter_le _ _) (by rw[kL];omega)
 obtain⟨s,h1,d,M⟩:=cJ (f:=ej p (loopsN N (mayM n p.Give))) (λj (s:List Int)=>s=((loopsN N (mayM n p.Give)).take j).flatMap (λS=>S.filter λx=>decide (x∈p.Ask))/\s.length<=j * 256) (loopsN N (mayM n p.Give)).length (s:=[]) ⟨rfl,by simp⟩ (λj s hj ⟨a1,a2⟩=>by
  have c:(loopsN N (mayM n p.Give))[j]? =some (loopsN N (mayM n p.Give))[j]:=bI hj
  generalize(loopsN N (mayM n p.Give))[j]=S at c
  have O:=F S (bL c)
  obtain⟨t,k1,l,m⟩:=cJ (f:=ek p S) (λi (t:List Int)=>t=s++(S.take i).filter (λx=>decide (x∈p.Ask))/\t.length<=j * 256+i) S.length (s:=s) ⟨by simp,Nat.le_trans a2 (Nat.le_add_right _ _)⟩ (λi t D ⟨o,L⟩=>by
   have hx:S[i]? =some S[i]:=bI D
   generalize S[i]=x at hx
   unfold ek
   rw[bT,hx,bG,conI,bG,zO,hx]
   by_cases h:x∈p.Ask
   · rw[decide_eq_true h,cond_true,app1 (by omega) rfl,bG,bG]
     exact⟨_,rfl,by rw[o];simp[List.filter_append,h],by simp;omega⟩
   · rw[decide_eq_false h,cond_false,bG]
     exact⟨_,rfl,by rw[o];simp[List.filter_append,h],by omega⟩)
  unfold ej
  rw[bT,c,bG,k1,bG,ca]
  rw[List.take_length]at l
  refine⟨_,rfl,?_,by omega⟩
  rw[l,a1,zO,c,List.flatMap_append]
  simp)
 rw[List.take_length]at d
 rw[h1,bG,ca]
 have I:s.Nodup:=by
  rw[d]
  unfold loopsN
  rw[List.flatMap_map,List.Nodup,List.pairwise_flatMap]
  refine⟨λv _=>?_,?_⟩
  · exact List.Pairwise.filter _ (iN (lT v))
  · have B:Asc ((gA (mayM n p.Give) (mayM n p.Give).length).filter λv=>decide (Lead (scN N (mayM n p.Give)) v)):=(n8 _ _).filter _
    refine B.imp_of_mem λ{a b} ha hb A x hx y hy e=>?_
    subst e
    have E:=of_decide_eq_true (List.mem_filter.1 hb).2
    have k1:=(fR.1 (List.mem_filter.1 hx).1).2
    have l:=(fR.1 (List.mem_filter.1 hy).1).2
    exact E.2 a A (k1.trans l.symm)
 have H:∀z,z∈s↔z∈hitP N p:=λz=>by
  rw[d,List.mem_flatMap,pQ g]
  constructor
  · rintro⟨S,c,K⟩
    obtain⟨h1,d⟩:=List.mem_filter.1 K
    unfold loopsN at c
    obtain⟨v,J,rfl⟩:=List.mem_map.1 c
    have hl:=of_decide_eq_true (List.mem_filter.1 J).2
    exact⟨of_decide_eq_true d,hl.1.akin (fR.1 h1).2⟩
  · rintro⟨h1,d⟩
    refine⟨partG N (mayM n p.Give) z,?_,List.mem_filter.2 ⟨fR.2 ⟨mQ d,Akin.refl z⟩,decide_eq_true h1⟩⟩
    obtain⟨t,k1,l,m⟩:=qn d
    unfold loopsN
    exact List.mem_map.2 ⟨_,List.mem_filter.2 ⟨el.2 (mQ m.1),decide_eq_true m⟩,(tC l).symm⟩
 have q:(s.mergeSort λx y=>decide (x<=y))=hitP N p:=nW (tZ I) (wF u) λz=>by rw[(List.mergeSort_perm s _).mem_iff,H]
 have hs:c7 s=some (hitP N p):=by
  unfold c7
  by_cases h:0<s.length
  · have hm:(loopsN N (mayM n p.Give)).length * 256<=256 * 256:=Nat.mul_le_mul_right _ G
    rw[if_pos ⟨h,by omega⟩,q]
  · have e:s=[]:=List.length_eq_zero_iff.1 (by omega)
    rw[if_neg (λk=>h k.1),if_pos (by omega)]
    rw[← q,e,List.mergeSort_nil]
 rw[hs];rfl
end
noncomputable def brkN (N:List (List Int)) (ps:List Pair):Nat->List Int
 | 0=>[]
 | j+1=>brkN N ps j++(match ps[j]? with | some p=>if hitP N p=[] then[] else[(j:Int)] | none=>[])
theorem ns (N:List (List Int)) (ps:List Pair) (j:Nat):brkN N ps (j+1)=brkN N ps j++(match ps[j]? with | some p=>if hitP N p=[] then[] else[(j:Int)] | none=>[]):=rfl
theorem pN (N:List (List Int)) (ps:List Pair):∀j,(brkN N ps j).length<=j
 | 0=>Nat.le_refl _
 | j+1=>by
  have:=pN N ps j
  rw[ns,zF]
  have:(match ps[j]? with | some p=>if hitP N p=[] then[] else[(j:Int)] | none=>[]:List Int).length<=1:=by
   cases ps[j]? with
   | none=>simp
   | some p=>dsimp only;split <;> simp
  omega
theorem oh (N:List (List Int)) (ps:List Pair):∀(j:Nat) (z:Int),z∈brkN N ps j↔∃i:Nat,i<j/\z=(i:Int)/\∃p,ps[i]? =some p/\hitP N p≠[]
 | 0,z=>by simp[brkN]
 | j+1,z=>by
  rw[ns,zN,oh N ps j]
  constructor
  · rintro(⟨i,h1,a⟩ | h)
    · exact⟨i,by omega,a⟩
    · cases e:ps[j]? with
      | none=>rw[e]at h;cases h
      | some p=>
       rw[e]at h
       dsimp only at h
       by_cases hp:hitP N p=[]
       · rw[if_pos hp]at h;cases h
       · rw[if_neg hp,zG]at h
         exact⟨j,by omega,h,p,e,hp⟩
  · rintro⟨i,h1,a,p,b,c⟩
    by_cases e:i=j
    · subst e
      right
      rw[b]
      dsimp only
      rw[if_neg c,zG]
      exact a
    · exact .inl ⟨i,by omega,a,p,b,c⟩
section
variable {N:List (List Int)}{n:Nat}(g:Gn N n){ps:List Pair}(hp:∀p∈ps,St n p.Ask) (hl:ps.length<=4)
include g hp hl
theorem vM {w:watch}(d:w.next=N) (b:w.pairs=ps):ef w=some (brkN N ps ps.length):=by
 obtain⟨s,h1,c⟩:=cJ (f:=eC w) (λj s=>s=brkN N ps j) ps.length (s:=[]) rfl (λj s hj hs=>by
  subst hs
  have a:ps[j]? =some ps[j]:=bI hj
  generalize ps[j]=p at a
  have e:=pN N ps j
  unfold eC
  rw[b,bT,a,bG,vQ g d (hp p (bL a)),bG]
  rw[ns,a]
  dsimp only
  by_cases h:hitP N p=[]
  · rw[h,if_pos rfl,List.append_nil]
    exact⟨_,rfl,rfl⟩
  · have:0<(hitP N p).length:=List.length_pos_iff.2 h
    rw[decide_eq_true (by omega),cond_true,app1 (by omega) rfl,if_neg h]
    exact⟨_,rfl,rfl⟩)
 unfold ef
 rw[b,h1,bG,ca,c]
end
structure AK (p:Sig) (m:Machine) (cs:List Clause) (n k:Nat) (D:Det) (K:List Key) (w:watch):Prop where
 hs:sigOk p=true
 hm:machOk p m=true
 hc:ed p cs=true
 ln:ltd p=((n:Nat):Int)
 kn:pw p.In=((k:Nat):Int)
 pr:PR n cs D
 hd:detOk p D=true
 pl:D.Pairs.length=cs.length
 wk:WK p m D k K w
theorem AK.gn {p:Sig}{m:Machine}{cs:List Clause}{n k:Nat}{D:Det}{K:List Key}{w:watch}(h:AK p m cs n k D K w):Gn w.next K.length:=⟨h.wk.prod.rl,h.wk.le,λv r hr=>by
 obtain⟨d,_⟩:=dq hr
 rw[cY d]at hr
 obtain⟨j,u,l,c⟩:=h.wk.prod.row _ r hr
 have g:=eR p.In
 have hk:=h.kn
 refine⟨by omega,λx hx=>?_⟩
 obtain⟨i,a⟩:=List.getElem?_of_mem hx
 have f:=(bJ.1 a).1
 obtain⟨y,b,o,e⟩:=c i (by omega)
 rw[a]at b
 cases b
 have:=(bJ.1 e).1
 omega⟩
theorem AK.ps {p:Sig}{m:Machine}{cs:List Clause}{n k:Nat}{D:Det}{K:List Key}{w:watch}(h:AK p m cs n k D K w):w.pairs.length=cs.length/\w.pairs.length<=4/\∀x∈w.pairs,St K.length x.Ask:=by
 obtain⟨_,_,a,_⟩:=dC h.hd
 have:=h.pl
 rw[h.wk.pairs,zQ]
 refine⟨h.pl,a,λx hx=>?_⟩
 obtain⟨y,_,rfl⟩:=List.mem_map.1 hx
 show St K.length (partN K y.Ask K.length)
 rw[nE _ _ _ (Nat.le_refl _)]
 exact uw _ _ _ _
theorem vE (p:Sig) (m:Machine){cs:List Clause}(hb:∀c∈cs,Clause.bd c):(oL p m cs=some ([],[],false)/\gu p m cs=some (none,false)/\(sigOk p=true->machOk p m=true->ed p cs=true->2<cs.length\/∃n k D,ltd p=((n:Nat):Int)/\pw p.In=((k:Nat):Int)/\PR n cs D/\da p cs=some (D,true)/\ManyK m D (pw p.In) k)) \/
 ∃n k D K w,AK p m cs n k D K w/\oL p m cs=some (w.next,w.pairs,true)/\gu p m cs=some (some w,true):=by
 unfold oL gu
 rw[ml,bG]
 rcases oe p hb with ⟨h1,a,f⟩ | ⟨hs,hc,n,D,hn,r,e,hd,hl,h1,a⟩
 · left
   rw[h1,a]
   cases hs:sigOk p with
   | false=>exact⟨rfl,rfl,λh=>by cases h⟩
   | true=>
    rw[kF hs]
    cases machOk p m <;> exact⟨rfl,rfl,λ_ _ hc=> .inl (f hs hc)⟩
 · have g:∀x∈D.Pairs,x.Ask.length<=1000000000/\x.Give.length<=1000000000:=λx hx=>by
    obtain⟨l,o,_,_⟩:=dC hd
    have hD:=hd
    unfold detOk at hD
    simp only[n6]at hD
    have hp:=hD.1.2
    unfold pairsOk at hp
    rw[n6,List.all_eq_true]at hp
    have:=hp.2 x hx
    unfold pairOk at this
    rw[n6]at this
    have a1:=(St.of this.1).len
    have a2:=(St.of this.2).len
    omega
   rw[h1,a,hs,kF hs]
   simp only[sh,cond_false,bG]
   unfold rG
   rw[kS,hs,Bool.true_and,iW hs g,hd]
   cases hm:machOk p m with
   | false=>exact .inl ⟨rfl,rfl,λ_ h=>by cases h⟩
   | true=>
    have s:=eR p.In
    obtain⟨k,hk⟩:=dy (z:=pw p.In) (by omega)
    simp only[sh,cond_false,bG]
    rcases qT hs hm hd hk with ⟨w1,b,d⟩ | ⟨q,w,K,w1,b,d,i,_,j⟩
    · left
      rw[w1,b]
      exact⟨rfl,rfl,λ_ _ _=> .inr ⟨n,k,D,hn,hk,e,rfl,d⟩⟩
    · right
      refine⟨n,k,D,K,w,⟨hs,hm,hc,hn,hk,e,hd,hl,j⟩,?_,?_⟩
      · rw[w1]
        simp only[bG,sh,cond_false,d,ca,i]
      · rw[b];rfl
end Go.Proofs.YtleekpaohfpooaaGreat
set_option linter.unusedVariables false
set_option linter.unusedSimpArgs false
namespace Go.Proofs.YtleekpaohfpooaaGreat
open Go Go.Wk Go.Proofs
theorem sX (N:List (List Int)) (ps:List Pair):∀j,Asc (brkN N ps j)
 | 0=>List.Pairwise.nil
 | j+1=>by
  rw[ns]
  refine List.pairwise_append.2 ⟨sX N ps j,?_,λa ha b hb=>?_⟩
  · cases ps[j]? with
    | none=>exact List.Pairwise.nil
    | some p=>dsimp only;split <;> simp
  · obtain⟨i,h1,c,_⟩:=(oh N ps j a).1 ha
    have d:b=(j:Int):=by
     cases e:ps[j]? with
     | none=>rw[e]at hb;cases hb
     | some p=>
      rw[e]at hb
      dsimp only at hb
      split at hb
      · cases hb
      · simpa using hb
    omega
end Go.Proofs.YtleekpaohfpooaaGreat
set_option linter.unusedVariables false
set_option linter.unusedSimpArgs false
namespace Go.Proofs.YtleekpaohfpooaaGreat
open Go Go.Wk Go.Proofs
def Eg (N:List (List Int)) (v i x:Int):Prop:=∃row,idx N v=some row/\idx row i=some x
theorem Eg.uniq {N:List (List Int)}{v i x y:Int}:Eg N v i x->Eg N v i y->x=y:=λ⟨r,h1,c⟩ ⟨r',a,b⟩=>by
 rw[h1]at a;cases a
 rw[c]at b;cases b
 rfl
def Way (N:List (List Int)) (M:List Bool):Int->List Int->Int->Prop
 | v,[],u=>u=v
 | v,i::w,u=>∃x,Eg N v i x/\In M x/\Way N M x w u
theorem Way.snoc {N:List (List Int)}{M:List Bool}:∀{w:List Int}{v u i x:Int},Way N M v w u->Eg N u i x->In M x->Way N M v (w++[i]) x
 | [],v,u,i,x,h,e,hx=>by
  have h:u=v:=h
  subst h
  exact⟨x,e,hx,rfl⟩
 | j::w,v,u,i,x,⟨y,h1,h2,h3⟩,e,hx=>⟨y,h1,h2,h3.snoc e hx⟩
theorem Way.uniq {N:List (List Int)}{M:List Bool}:∀{w:List Int}{v u a:Int},Way N M v w u->Way N M v w a->u=a
 | [],v,u,a,h,b=>by
  have h:u=v:=h
  have b:a=v:=b
  rw[h,b]
 | j::w,v,u,a,⟨y,h1,h2,h3⟩,⟨y',h1',h2',h3'⟩=>by
  have:=h1.uniq h1'
  subst this
  exact h3.uniq h3'
def lexL:List Int->List Int->Prop
 | a::s,b::t=>a<b\/(a=b/\lexL s t)
 | _,_=>False
theorem lexL.trans:∀{a b c:List Int},lexL a b->lexL b c->lexL a c
 | [],_,_,h,_=>by cases ‹List Int› <;> exact h.elim
 | _::_,[],_,h,_=>h.elim
 | _::_,_::_,[],_,h=>h.elim
 | x::a,y::b,z::c,h,d=>by
  rcases h with h | ⟨h,k⟩
  · rcases d with d | ⟨d,k'⟩
    · exact .inl (by omega)
    · exact .inl (by omega)
  · rcases d with d | ⟨d,k'⟩
    · exact .inl (by omega)
    · exact .inr ⟨by omega,k.trans k'⟩
theorem lexL.irr:∀{a:List Int},¬lexL a a
 | [],h=>h
 | x::a,h=>by
  rcases h with h | ⟨_,k⟩
  · omega
  · exact k.irr
theorem lexL.app {x y:Int}:∀{a b:List Int},lexL a b->lexL (a++[x]) (b++[y])
 | [],b,h=>by cases b <;> exact h.elim
 | _::_,[],h=>h.elim
 | p::a,q::b,h=>by
  rcases h with h | ⟨h,k⟩
  · exact .inl h
  · exact .inr ⟨h,k.app⟩
theorem lexL.last {i j:Int}(h:i<j):∀a:List Int,lexL (a++[i]) (a++[j])
 | []=> .inl h
 | p::a=> .inr ⟨rfl,lexL.last h a⟩
def slt (a b:List Int):Prop:=a.length<b.length\/(a.length=b.length/\lexL a b)
def sle (a b:List Int):Prop:=a=b\/slt a b
theorem slt.trans {a b c:List Int}(h:slt a b) (d:slt b c):slt a c:=by
 rcases h with h | ⟨h,k⟩
 · rcases d with d | ⟨d,k'⟩
   · exact .inl (by omega)
   · exact .inl (by omega)
 · rcases d with d | ⟨d,k'⟩
   · exact .inl (by omega)
   · exact .inr ⟨by omega,k.trans k'⟩
theorem slt.irr {a:List Int}(h:slt a a):False:=by
 rcases h with h | ⟨h,k⟩
 · omega
 · exact k.irr
theorem slt.app {a b:List Int}{x y:Int}(h:slt a b):slt (a++[x]) (b++[y]):=by
 rcases h with h | ⟨h,k⟩
 · exact .inl (by simp only[zF,zI,zK];omega)
 · exact .inr ⟨by simp[h],k.app⟩
theorem slt.last {i j:Int}(h:i<j) (a:List Int):slt (a++[i]) (a++[j]):= .inr ⟨by simp,lexL.last h a⟩
theorem sle.trans {a b c:List Int}(h:sle a b) (d:sle b c):sle a c:=by
 rcases h with rfl | h
 · exact d
 · rcases d with rfl | d
   · exact .inr h
   · exact .inr (h.trans d)
theorem sle.anti {a b:List Int}(h:sle a b) (c:sle b a):a=b:=by
 rcases h with rfl | h
 · rfl
 · rcases c with rfl | c
   · rfl
   · exact(h.trans c).irr.elim
theorem sle.slt {a b c:List Int}(h:sle a b) (d:slt b c):slt a c:=by
 rcases h with rfl | h
 · exact d
 · exact h.trans d
theorem sle.app {a b:List Int}(x:Int) (h:sle a b):sle (a++[x]) (b++[x]):=by
 rcases h with rfl | h
 · exact .inl rfl
 · exact .inr h.app
theorem sle.cons {a b:List Int}(x:Int) (h:sle a b):sle (x::a) (x::b):=by
 rcases h with rfl | h | ⟨h,k⟩
 · exact .inl rfl
 · exact .inr (.inl (by simp only[zI];omega))
 · exact .inr (.inr ⟨by simp only[zI,h],.inr ⟨rfl,k⟩⟩)
def LeastW (N:List (List Int)) (M:List Bool) (v u:Int) (w:List Int):Prop:=w≠[]/\Way N M v w u/\∀w',w'≠[]->Way N M v w' u->sle w w'
theorem LeastW.uniq {N:List (List Int)}{M:List Bool}{v u:Int}{w w':List Int}(h:LeastW N M v u w) (a:LeastW N M v u w'):w=w':=(h.2.2 w' a.1 a.2.1).anti (a.2.2 w h.1 h.2.1)
theorem Lv.way {N:List (List Int)}{M:List Bool}{s:Int}:∀{d:Nat}{k:Int},Lv (scN N M) s d k->∃w:List Int,w.length=d/\Way N M k w s
 | 0,k,h=>⟨[],rfl,(show k=s from h).symm⟩
 | d+1,k,⟨u,h1,h2⟩=>by
  obtain⟨w,w1,c⟩:=Lv.way h2
  obtain⟨_,b,row,hr,hm⟩:=g9.1 h1
  obtain⟨i,a⟩:=List.getElem?_of_mem hm
  exact⟨(i:Int)::w,by simp[w1],u,⟨row,hr,by rw[bT];exact a⟩,b,c⟩
theorem Way.lv {N:List (List Int)}{M:List Bool}{s:Int}:∀{w:List Int}{k:Int},In M k->Way N M k w s->Lv (scN N M) s w.length k
 | [],k,_,h=>(show s=k from h).symm
 | i::w,k,hk,⟨x,⟨row,hr,hx⟩,hm,h⟩=>⟨x,g9.2 ⟨hk,hm,row,hr,by
  obtain⟨b,_,a⟩:=eI hx
  exact bL a⟩,Way.lv hm h⟩
end Go.Proofs.YtleekpaohfpooaaGreat
set_option linter.unusedVariables false
set_option linter.unusedSimpArgs false
namespace Go.Proofs.YtleekpaohfpooaaGreat
open Go Go.Wk Go.Proofs
theorem Eg.tab {N:List (List Int)}{v i x:Int}(h:Eg N v i x):tab N v i=x:=by
 obtain⟨row,h1,a⟩:=h
 obtain⟨e,_,c⟩:=eI h1
 obtain⟨d,_,b⟩:=eI a
 unfold Go.Proofs.YtleekpaohfpooaaGreat.tab
 rw[List.getD_eq_getElem?_getD (l:=N),c,Option.getD_some,List.getD_eq_getElem?_getD,b,Option.getD_some]
theorem wV {k i:Nat}(h:i<k):(nums k)[i]? =some (i:Int):=by
 unfold nums
 rw[List.getElem?_map,List.getElem?_range h];rfl
section
variable {p:Sig}{m:Machine}{d:Det}{k:Nat}{K:List Key}{w:watch}(h:WK p m d k K w)
include h
theorem xu {M:List Bool}(l:∀v:Int,0<=v->v<K.length->In M v):∀(q:Nat),q<K.length->∃R,Way w.next M 0 R (q:Int):=λq=>by
 induction q using Nat.strongRecOn with
 | ind q ih=>
  intro n
  have a:K[q]? =some K[q]:=bI n
  rcases h.prod.src q _ a with rfl | ⟨j,x,v,a1,a2,d,f,g⟩
  · exact⟨[],rfl⟩
  · obtain⟨R,m⟩:=ih j a1 a2
    have hrl:=h.prod.rl
    have hr:w.next[j]? =some w.next[j]:=bI (by omega)
    obtain⟨_,p,c,i⟩:=h.prod.row j _ hr
    rw[d]at c;cases c
    obtain⟨y,o,r,b⟩:=i x f
    rw[← g,← a]at b
    have e:=(List.getElem?_inj (by have:=(bJ.1 (b.trans a)).1;exact this) h.prod.nod).1 b
    have k:y=(q:Int):=by omega
    subst k
    exact⟨R++[(x:Int)],m.snoc ⟨_,by rw[bT];exact hr,by rw[bT];exact o⟩ (l _ (by omega) (by omega))⟩
theorem vC {v i y:Int}(j:Eg w.next v i y){u:Key}(d:K[v.toNat]? =some u):0<=i/\i<k/\tab w.letters v i=tab m.Out u.1 i * pw p.In+i/\∃z:Key,K[y.toNat]? =some z/\z.1=tab m.Next u.1 i:=by
 obtain⟨row,a,b⟩:=j
 obtain⟨g,_⟩:=dq a
 obtain⟨e,q⟩:=dq b
 rw[cY g]at a
 obtain⟨r,s,f,l⟩:=h.prod.row _ row a
 rw[d]at f;cases f
 obtain⟨i,rfl⟩:=dy e
 have c:i<k:=by omega
 obtain⟨t,n,x,o⟩:=l i c
 rw[bT,n]at b
 cases b
 refine⟨e,by omega,?_,_,o,rfl⟩
 have hl:=h.let_.2 _ u d
 have:Eg w.letters v (i:Int) (letW m (pw p.In) u i):=⟨_,by rw[cY g];exact hl,by rw[bT,List.getElem?_map,wV c];rfl⟩
 exact this.tab
end
section
variable {p:Sig}{m:Machine}{D:Det}{k:Nat}{K:List Key}{w:watch}(h:WK p m D k K w) (hm:machOk p m=true) (hk:pw p.In=(k:Int)){n:Nat}(hn:ltd p=n)
include h hm hk hn
theorem vD {v i x:Int}(k:0<=v) (l:v<K.length) (d:Eg w.next v i x):0<=i/\i<pw p.In/\(0<=x/\x<K.length)/\0<=tab w.letters v i/\tab w.letters v i<n/\tab w.letters v i=tab m.Out (keyAt K v).1 i * pw p.In+i/\(keyAt K x).2=tab D.Next (keyAt K v).2 (tab w.letters v i)/\0<=(keyAt K v).2/\(keyAt K v).2<D.Next.length:=by
 have e:=jI k l
 obtain⟨c,q,a,_⟩:=vC h d e
 obtain⟨f,g,j⟩:=oR h.prod k l c q
 rw[d.tab]at f g j
 obtain⟨_,_,t,y,r⟩:=c9 hm
 have b:=h.kin _ (bL e)
 have C:=eR p.In
 have E:=eR p.Out
 obtain⟨F,z,A,s,B⟩:=iL r b.1 (by omega) c (by omega)
 have u:0<=tab m.Out (keyAt K v).1 i * pw p.In:=Int.mul_nonneg s (by omega)
 have o:(tab m.Out (keyAt K v).1 i+1) * pw p.In<=pw p.Out * pw p.In:=Int.mul_le_mul (by omega) (by omega) (by omega) (by omega)
 have hl:pw p.In * pw p.Out=(n:Int):=hn
 rw[Int.add_mul,Int.one_mul,Int.mul_comm (pw p.Out),hl]at o
 refine⟨c,by omega,⟨f,g⟩,by rw[a];omega,by rw[a];omega,a,?_,b.2.2.1,b.2.2.2⟩
 rw[j,a]
 rfl
end
end Go.Proofs.YtleekpaohfpooaaGreat
set_option linter.unusedVariables false
set_option linter.unusedSimpArgs false
namespace Go.Proofs.YtleekpaohfpooaaGreat
open Go Go.Wk Go.Proofs
def stP (p:Sig) (m:Machine) (c:Clause) (v:Key) (i:Int):Key:=(tab m.Next v.1 i,mst c v.2 (tab m.Out v.1 i * pw p.In+i))
def RunP (p:Sig) (m:Machine) (c:Clause) (G:List Int):Key->List Int->Key->Prop
 | v,[],u=>u=v
 | v,i::R,u=>0<=i/\i<pw p.In/\(stP p m c v i).2∉G/\RunP p m c G (stP p m c v i) R u
def Cnd (p:Sig) (m:Machine) (c:Clause):Prop:=∃(v:Key) (R Q:List Int),RunP p m c [] (0,0) R v/\v.2∈(monPair c.Kind).Ask/\Q≠[]/\RunP p m c (monPair c.Kind).Give v Q v
theorem Way.append {N:List (List Int)}{M:List Bool}{B:List Int}{x:Int}:∀{A:List Int}{v u:Int},Way N M v A u->Way N M u B x->Way N M v (A++B) x
 | [],v,u,h,h'=>by
  have h:u=v:=h
  subst h;exact h'
 | i::A,v,u,⟨y,h1,h2,h3⟩,h'=>⟨y,h1,h2,h3.append h'⟩
theorem pigeon {n:Nat}{f:Nat->Int}(h:∀i,0<=f i/\f i<n):∃i j,i<j/\f i=f j:=by
 by_cases hd:∃i j,i<j/\f i=f j
 · exact hd
 · exfalso
   have d:((List.range (n+1)).map f).Nodup:=by
    rw[List.Nodup,List.pairwise_map]
    refine List.pairwise_lt_range.imp λ{a b} c e=>hd ⟨a,b,c,e⟩
   have:=di n _ d (λx hx=>by
    obtain⟨i,_,rfl⟩:=List.mem_map.1 hx
    exact h i)
   rw[zQ,List.length_range]at this
   omega
section
variable {p:Sig}{m:Machine}{D:Det}{k:Nat}{K:List Key}{w:watch}(h:WK p m D k K w) (hm:machOk p m=true) (hd:detOk p D=true) (hk:pw p.In=(k:Int)){n:Nat}(hn:ltd p=n){c:Clause}{i:Nat}{π:Int->Int}(s:Sm n D c i π)
def ptP (K:List Key) (π:Int->Int) (v:Int):Key:=((keyAt K v).1,π (keyAt K v).2)
include h hm hk hn s
theorem vv {v j x:Int}(e:0<=v) (f:v<K.length) (a:Eg w.next v j x):ptP K π x=stP p m c (ptP K π v) j:=by
 obtain⟨A,B,⟨r,t⟩,i,k,l,n,o,q⟩:=vD h hm hk hn e f a
 have g:=jI e f
 obtain⟨_,_,_,z,u,y⟩:=vC h a g
 have b:=jI r t
 rw[u]at b
 have d:z=keyAt K x:=Option.some.inj b
 unfold ptP stP
 dsimp only
 rw[← d,y,d,n,s.step _ _ o q i k,l]
theorem sQ {M:List Bool}{G:List Int}(b:∀y:Int,0<=y->y<K.length->In M y->(ptP K π y).2∉G):∀{R:List Int}{v u:Int},0<=v->v<K.length->Way w.next M v R u->RunP p m c G (ptP K π v) R (ptP K π u)
 | [],v,u,_,_,a=>by
  have a:u=v:=a
  rw[a];exact rfl
 | j::R,v,u,v0,v1,⟨x,h1,h2,h3⟩=>by
  obtain⟨g,i,⟨d,f⟩,_⟩:=vD h hm hk hn v0 v1 h1
  have e:=vv h hm hk hn s v0 v1 h1
  refine⟨g,i,?_,?_⟩
  · rw[← e];exact b x d f h2
  · rw[← e];exact sQ b d f h3
theorem sq {M:List Bool}{G:List Int}(f:∀y:Int,0<=y->y<K.length->(ptP K π y).2∉G->In M y):∀{R:List Int}{v:Int}{z:Key},0<=v->v<K.length->RunP p m c G (ptP K π v) R z->∃u,Way w.next M v R u/\(0<=u/\u<K.length)/\ptP K π u=z
 | [],v,z,v0,v1,hr=>⟨v,rfl,⟨v0,v1⟩,(show z=ptP K π v from hr).symm⟩
 | j::R,v,z,v0,v1,⟨i0,i1,hg,hr⟩=>by
  obtain⟨b,d,r⟩:=oR h.prod v0 v1 i0 (by omega)
  have hrl:=h.prod.rl
  obtain⟨row,g⟩:=cT (xs:=w.next) (i:=v) v0 (by omega)
  have k:=g
  rw[cY v0]at k
  obtain⟨q,_,_,_⟩:=h.prod.row _ row k
  obtain⟨x,hx⟩:=cT (xs:=row) (i:=j) i0 (by omega)
  have a:Eg w.next v j x:=⟨row,g,hx⟩
  have e:=vv h hm hk hn s v0 v1 a
  rw[a.tab]at b d
  rw[← e]at hg hr
  obtain⟨u,l,n,o⟩:=sq f b d hr
  exact⟨u,⟨x,a,f x b d hg,l⟩,n,o⟩
end
theorem vb {p:Sig}{m:Machine}{cs:List Clause}{n k:Nat}{D:Det}{K:List Key}{w:watch}(h:AK p m cs n k D K w){i:Nat}{l:Pair}(ac:w.pairs[i]? =some l){c:Clause}(hc:cs[i]? =some c):hitP w.next l≠[]↔Cnd p m c:=by
 have V:=h.hc
 unfold ed at V
 rw[n6,List.all_eq_true]at V
 obtain⟨π,B⟩:=h.pr.sm h.ln V.2 i c hc
 obtain⟨T,ar,S⟩:=B.pair
 have al:l=partP K T:=by
  rw[h.wk.pairs,List.getElem?_map,ar]at ac
  exact(Option.some.inj ac).symm
 have aj:∀y:Int,0<=y->y<K.length->0<=(keyAt K y).2/\(keyAt K y).2<D.Next.length:=λy q f=>(h.wk.kin _ (bL (jI q f))).2.2
 have ai:∀y:Int,0<=y->y<K.length->(y∈l.Ask↔(ptP K π y).2∈(monPair c.Kind).Ask):=λy q f=>by
  obtain⟨a,b⟩:=aj y q f
  rw[al]
  show y∈partN K T.Ask K.length↔_
  rw[nE _ _ _ (Nat.le_refl _),oY q f]
  exact(S _ a b).1
 have Y:∀y:Int,0<=y->y<K.length->(In (mayM K.length l.Give) y↔(ptP K π y).2∉(monPair c.Kind).Give):=λy q f=>by
  obtain⟨a,b⟩:=aj y q f
  rw[vm,al]
  show((0<=y/\y<K.length)/\y∉partN K T.Give K.length)↔_
  rw[nE _ _ _ (Nat.le_refl _),oY q f]
  exact⟨λU X=>U.2 ((S _ a b).2.2 X),λU=>⟨⟨q,f⟩,λX=>U ((S _ a b).2.1 X)⟩⟩
 have h0:(0:Int)<K.length:=by
  have:=(bJ.1 h.wk.prod.zero).1
  omega
 have ak:ptP K π 0=(0,0):=by
  have ax:keyAt K 0=(0,0):=by
   unfold keyAt
   rw[show(0:Int).toNat=0 from rfl,h.wk.prod.zero];rfl
  unfold ptP
  rw[ax]
  show((0:Int),π 0)=(0,0)
  rw[B.zero]
 have g:=h.gn
 have aQ:=g.ln
 have av:=h.ps.2.2 l (bL ac)
 have ah:∀v:Int,0<=v->v<K.length->In (mayM K.length []) v:=λv aM ap=>(vm v).2 ⟨⟨aM,ap⟩,by simp⟩
 constructor
 · intro Z
   obtain⟨s,t,aG⟩:=List.exists_cons_of_ne_nil Z
   have hsm:s∈hitP w.next l:=by rw[aG];simp
   obtain⟨H,aE⟩:=(pQ g s).1 hsm
   obtain⟨ae,ao⟩:=av.rng s H
   obtain⟨aJ,aF⟩:=dy ae
   obtain⟨R,ag⟩:=xu h.wk ah aJ (by omega)
   rw[← aF]at ag
   obtain⟨y,f,P⟩:=aE
   obtain⟨au,aA⟩:=P.lv
   obtain⟨Q,I,A⟩:=Lv.way (show Lv (scN w.next (mayM K.length l.Give)) s (au+1) s from⟨y,f,aA⟩)
   have F:=sQ h.wk h.hm h.kn h.ln B (M:=mayM K.length []) (G:=[]) (λy _ _ _ hy=>by cases hy) (Int.le_refl _) h0 ag
   have ad:=sQ h.wk h.hm h.kn h.ln B (λy q f hy=>(Y y q f).1 hy) ae ao A
   rw[ak]at F
   exact⟨_,R,Q,F,(ai s ae ao).1 H,λe=>by rw[e]at I;simp at I,ad⟩
 · rintro⟨z,R,Q,F,ad,am,an⟩
   rw[← ak]at F
   obtain⟨v,ap,aq,aN⟩:=sq h.wk h.hm h.kn h.ln B (M:=mayM K.length []) (G:=[]) (λy q f _=>ah y q f) (Int.le_refl _) h0 F
   have aa:∀x:Int,0<=x/\x<K.length/\ptP K π x=z->∃y:Int,Way w.next (mayM K.length l.Give) x Q y/\(0<=y/\y<K.length/\ptP K π y=z):=λx ⟨L,N,O⟩=>by
    obtain⟨y,f,P,aO⟩:=sq h.wk h.hm h.kn h.ln B (M:=mayM K.length l.Give) (λy q f hy=>(Y y q f).2 hy) L N (by rw[O];exact an)
    exact⟨y,f,P.1,P.2,aO⟩
   classical
   let r:Int->Int:=λx=>if hx:0<=x/\x<K.length/\ptP K π x=z then(aa x hx).choose else x
   have ab:∀x:Int,0<=x/\x<K.length/\ptP K π x=z->Way w.next (mayM K.length l.Give) x Q (r x)/\(0<=r x/\r x<K.length/\ptP K π (r x)=z):=λx hx=>by
    have:r x=(aa x hx).choose:=dif_pos hx
    rw[this]
    exact(aa x hx).choose_spec
   let o:Nat->Int:=λj=>Nat.rec v (λ_ x=>r x) j
   have C:∀j,0<=o j/\o j<K.length/\ptP K π (o j)=z:=λj=>by
    induction j with
    | zero=>exact⟨aq.1,aq.2,aN⟩
    | succ j E=>exact(ab (o j) E).2
   obtain⟨a,b,aP,aB⟩:=pigeon (n:=K.length) (f:=o) λj=>⟨(C j).1,(C j).2.1⟩
   have aH:∀d:Nat,∃W:List Int,W≠[]/\Way w.next (mayM K.length l.Give) (o a) W (o (a+d+1)):=λd=>by
    induction d with
    | zero=>exact⟨Q,am,(ab (o a) (C a)).1⟩
    | succ d E=>
     obtain⟨W,w1,J⟩:=E
     refine⟨W++Q,by simp[w1],J.append (ab (o (a+d+1)) (C (a+d+1))).1⟩
   obtain⟨W,w1,J⟩:=aH (b-a-1)
   rw[show a+(b-a-1)+1=b from by omega,← aB]at J
   obtain⟨L,N,O⟩:=C a
   have aI:z.2∉(monPair c.Kind).Give:=by
    have aC:∀{Q:List Int} {u v:Key},Q≠[]->RunP p m c (monPair c.Kind).Give u Q v->v.2∉(monPair c.Kind).Give:=λ{Q}=>by
     induction Q with
     | nil=>intro u v Z;exact absurd rfl Z
     | cons j Q E=>
      intro u v _ ⟨_,_,I,A⟩
      by_cases e:Q=[]
      · subst e
        have A:v=_:=A
        rw[A];exact I
      · exact E e A
    exact aC am an
   have ay:In (mayM K.length l.Give) (o a):=(Y _ L N).2 (by rw[O];exact aI)
   have H:o a∈l.Ask:=(ai _ L N).2 (by rw[O];exact ad)
   have af:=Way.lv ay J
   obtain⟨j,W',az⟩:=List.exists_cons_of_ne_nil w1
   rw[az]at af
   obtain⟨u,aK,aL⟩:=af
   have aw:Far (scN w.next (mayM K.length l.Give)) (o a):=⟨u,aK,aL.wy⟩
   have aD:o a∈hitP w.next l:=(pQ g (o a)).2 ⟨H,aw⟩
   exact List.ne_nil_of_mem aD
theorem xD {p:Sig}{m:Machine}{cs:List Clause}{n k:Nat}{D:Det}{K:List Key}{w:watch}(h:AK p m cs n k D K w) (z:Int):z∈brkN w.next w.pairs w.pairs.length↔∃(i:Nat) (c:Clause),z=(i:Int)/\cs[i]? =some c/\Cnd p m c:=by
 have f:=h.ps.1
 rw[oh]
 constructor
 · rintro⟨i,h1,a,g,b,d⟩
   have hc:cs[i]? =some (cs[i]'(by omega)):=bI (by omega)
   exact⟨i,_,a,hc,(vb h b hc).1 d⟩
 · rintro⟨i,c,h1,a,b⟩
   have e:=(bJ.1 a).1
   have hp:w.pairs[i]? =some (w.pairs[i]'(by omega)):=bI (by omega)
   exact⟨i,by omega,h1,_,hp,(vb h hp a).2 b⟩
end Go.Proofs.YtleekpaohfpooaaGreat
set_option linter.unusedVariables false
set_option linter.unusedSimpArgs false
namespace Go.Proofs.YtleekpaohfpooaaGreat
open Go Go.Wk Go.Proofs
section
variable {p:Sig}{m:Machine}{c:Clause}
def kst (p:Sig) (m:Machine) (c:Clause) (I:Nat->Int) (t:Nat):Key:=(runM m I t,mrun c (letM p m I) t)
theorem RunP.segm {G:List Int}{I:Nat->Int}(hI:∀t,0<=I t/\I t<pw p.In):∀(n t:Nat),(∀s,t<s->s<=t+n->mrun c (letM p m I) s∉G)->RunP p m c G (kst p m c I t) (seg I t n) (kst p m c I (t+n))
 | 0,t,_=>rfl
 | n+1,t,h=>by
  refine⟨(hI t).1,(hI t).2,h (t+1) (by omega) (by omega),?_⟩
  have:=RunP.segm (G:=G) hI n (t+1) λs h1 a=>h s (by omega) (by omega)
  rw[show t+1+n=t+(n+1) by omega]at this
  exact this
theorem RunP.rng {G:List Int}:∀{R:List Int}{v u:Key},RunP p m c G v R u->∀x∈R,0<=x/\x<pw p.In
 | [],_,_,_,x,hx=>by cases hx
 | i::R,v,u,⟨h0,h1,_,h⟩,x,hx=>by
  rcases List.mem_cons.1 hx with e | hx
  · rw[e];exact⟨h0,h1⟩
  · exact RunP.rng h x hx
theorem RunP.st {G:List Int}{I:Nat->Int}:∀{n t:Nat}{u:Key},RunP p m c G (kst p m c I t) (seg I t n) u->u=kst p m c I (t+n)/\∀i,i<n->mrun c (letM p m I) (t+i+1)∉G
 | 0,t,u,h=>⟨h,λi d=>absurd d (Nat.not_lt_zero i)⟩
 | n+1,t,u,⟨_,_,h1,h2⟩=>by
  obtain⟨a,b⟩:=RunP.st (t:=t+1) h2
  refine⟨by rw[a,show t+1+n=t+(n+1) by omega],λi d=>?_⟩
  cases i with
  | zero=>exact h1
  | succ i=>
   have:=b i (by omega)
   rwa [show t+1+i+1=t+(i+1)+1 by omega]at this
theorem RunP.stv {G:List Int}{I:Nat->Int}{n t:Nat}{v u:Key}{Q:List Int}(h:RunP p m c G v Q u) (b:v=kst p m c I t) (a:Q=seg I t n):u=kst p m c I (t+n)/\∀i,i<n->mrun c (letM p m I) (t+i+1)∉G:=by
 subst b a
 exact h.st
theorem uV (hm:machOk p m=true) (k1:1<=c.Kind) (k7:c.Kind<=7):Cnd p m c↔∃I:Nat->Int,(∀t,0<=I t/\I t<pw p.In)/\¬Sat c (letM p m I):=by
 constructor
 · rintro⟨v,R,Q,h1,n,B,d⟩
   have g:0<(⟨R,Q⟩:Word).Loop.length:=List.length_pos_iff.2 B
   have hI:∀t,0<=ltW ⟨R,Q⟩ t/\ltW ⟨R,Q⟩ t<pw p.In:=λt=>by
    rcases zN.1 (oA g t) with h | h
    · exact h1.rng _ h
    · exact d.rng _ h
   have D:R=seg (ltW ⟨R,Q⟩) 0 R.length:=sO λi x q=>by
    rw[Nat.zero_add]
    exact mX g (by rw[List.getElem?_append_left (bJ.1 q).1];exact q)
   have k:∀j,Q=seg (ltW ⟨R,Q⟩) (R.length+j * Q.length) Q.length:=tt g
   have A:kst p m c (ltW ⟨R,Q⟩) 0=(0,0):=rfl
   have a1:=(h1.stv A.symm D).1
   rw[Nat.zero_add]at a1
   have o:∀j,v=kst p m c (ltW ⟨R,Q⟩) (R.length+j * Q.length)/\∀i,i<Q.length->mrun c (letM p m (ltW ⟨R,Q⟩)) (R.length+j * Q.length+i+1)∉(monPair c.Kind).Give:=λj=>by
    induction j with
    | zero=>exact⟨by rw[Nat.zero_mul,Nat.add_zero];exact a1,(d.stv (by rw[Nat.zero_mul,Nat.add_zero];exact a1) (k 0)).2⟩
    | succ j H=>
     have e:=(d.stv H.1 (k j)).1
     rw[Nat.add_assoc,← Nat.succ_mul]at e
     exact⟨e,(d.stv e (k (j+1))).2⟩
   refine⟨ltW ⟨R,Q⟩,hI,λhs=>?_⟩
   obtain⟨t,a,b⟩:=(sM k1 k7).1 hs (λN=>⟨R.length+N * Q.length,by have:=Nat.mul_le_mul_left N g;dsimp only at this;omega,by have:=(o N).1;rw[this]at n;exact n⟩) (R.length+1)
   have hd:=Nat.mod_add_div (t-R.length-1) Q.length
   have F:=Nat.mod_lt (t-R.length-1) g
   have:=(o ((t-R.length-1) / Q.length)).2 ((t-R.length-1) % Q.length) F
   rw[Nat.mul_comm]at hd
   rw[show R.length+(t-R.length-1) / Q.length * Q.length+(t-R.length-1) % Q.length+1=t by omega]at this
   exact this b
 · rintro⟨I,hI,hn⟩
   rw[sM k1 k7]at hn
   obtain⟨ha,E⟩:=Classical.not_imp.1 hn
   obtain⟨N,C⟩:=Classical.not_forall.1 E
   have hr:=nH hm hI
   have l:=pE (L:=letM p m I) k1 k7
   have d:monStates c.Kind<=4:=by unfold monStates;(repeat' split) <;> omega
   have T:=(c9 hm).2.1
   obtain⟨z,r⟩:=Par.Io.val (f:=λt=>runM m I t * 4+mrun c (letM p m I) t) 192 (S:=λt=>N<=t/\mrun c (letM p m I) t∈(monPair c.Kind).Ask) (λM=>by
    obtain⟨t,a,b⟩:=ha (max M N)
    exact⟨t,by omega,by omega,b⟩) (λt _=>by
    have:=hr t
    have:=l t
    omega)
   obtain⟨a,_,⟨J,y⟩,K⟩:=r 0
   obtain⟨b,O,_,P⟩:=r (a+1)
   have e:kst p m c I b=kst p m c I a:=by
    have:=l a
    have:=l b
    exact Prod.ext (by show runM m I b=runM m I a;omega) (by show mrun c (letM p m I) b=mrun c (letM p m I) a;omega)
   have u:=RunP.segm (p:=p) (m:=m) (c:=c) (G:=[]) hI a 0 λ_ _ _ h=>by cases h
   have w:=RunP.segm (p:=p) (m:=m) (c:=c) (G:=(monPair c.Kind).Give) hI (b-a) a λs h1 _ h=>C ⟨s,by omega,h⟩
   rw[show a+(b-a)=b by omega,e]at w
   rw[Nat.zero_add]at u
   refine⟨kst p m c I a,_,_,u,y,λh=>?_,w⟩
   have:=congrArg List.length h
   rw[ig,zK]at this
   omega
end
end Go.Proofs.YtleekpaohfpooaaGreat
