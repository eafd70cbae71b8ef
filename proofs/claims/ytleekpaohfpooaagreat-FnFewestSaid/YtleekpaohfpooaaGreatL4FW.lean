/- A machine that is made: few pairs of its states and the product's are met; what KeepsAll says. Plain law. -/
import Derived.Test.YtleekpaohfpooaaGreatL2FW
import Derived.Test.YtleekpaohfpooaaGreatL3FW
import Derived.Test.YtleekpaohfpooaaGreatL1FW
import Derived.Test.YtleekpaohfpooaaGreatL0FW
set_option linter.unusedVariables false
set_option linter.unusedSimpArgs false
open Option renaming bind → bH, bind_some → bI
open List renaming getElem?_eq_getElem → bJ, getElem?_eq_some_iff → bK, replicate → bO, mem_of_getElem? → bQ, getElem?_replicate → hV, length_append → z5, mem_singleton → z6, getElem?_eq_none → Ac, mem_append → Ad, take_add_one → Ae, length_map → Ah
open Bool renaming and_eq_true → sh, not_true → zZ
open Int renaming toNat_natCast → z7
namespace Go.Proofs.YtleekpaohfpooaaGreat
open Go Go.Wk Go.Proofs
section
variable {p:Sig}{d:Det}{n m k:Nat}{A:Arena}{P:List Place}{g:Parity}{W:Int->Prop}{pk:List Int}(h:Cx d n m k A P g W pk) (h0:wB W 0=false) (hm:pw p.In=(m:Int)){j:Nat}(hj:∀i,i<j->i<(itM d n m k P g pk i).1.length) (hjl:j=(itM d n m k P g pk j).1.length)
include h h0 hm hj hjl
theorem sV {v:Key}(f:RchW (kyW ⟨(itM d n m k P g pk j).2.1,(itM d n m k P g pk j).2.2⟩ d (pw p.In)) m v):0<=v.1/\∃x,(itM d n m k P g pk j).1[v.1.toNat]? =some x/\v.2=atP P x:=by
 obtain⟨_,_,C⟩:=rE (d:=d) (n:=n) (m:=m) (k:=k) (P:=P) (g:=g) (pk:=pk) j hj
 have hM:=gg h h0 j hj
 induction f with
 | zero=>
  refine⟨Int.le_refl 0,0,hM.zero,?_⟩
  exact(db (v:=⟨0,firstR d.Pairs.length⟩) (by show idx P ((0:Nat):Int)=_;rw[bS];exact h.rg.game.zero)).symm
 | @step v i f e E=>
  obtain⟨Q,x,b,J⟩:=E
  obtain⟨R,row,L,a1,a2,t,w⟩:=C _ (by rw[hjl];exact(bK.1 b).1)
  rw[b]at a1
  cases a1
  obtain⟨⟨u,H,I,o⟩,s⟩:=w i e
  obtain⟨D,l⟩:=hM.all x (bQ b)
  obtain⟨M,a,_,_⟩:=h.place (hM.nm.2 x (bQ b))
  rw[db a]at l
  obtain⟨q,r,c,K,z,_,_,hf⟩:=qI h a l D
  obtain⟨_,_,O,_,_,_,_,_,N,F,_,G,_⟩:=hf i e
  rw[fh z,db a,c,z7]at o s
  have A:tab (itM d n m k P g pk j).2.1 v.1 (i:Int)=u:=by
   unfold tab
   rw[List.getD_eq_getElem?_getD,List.getD_eq_getElem?_getD,a2,Option.getD_some,z7,H,Option.getD_some]
  have B:tab (itM d n m k P g pk j).2.2 v.1 (i:Int)=oM d pk P r n m k q i:=by
   unfold tab
   rw[List.getD_eq_getElem?_getD,List.getD_eq_getElem?_getD,t,Option.getD_some,z7,s,Option.getD_some]
  show 0<=tab (itM d n m k P g pk j).2.1 v.1 (i:Int)/\∃y,(itM d n m k P g pk j).1[(tab (itM d n m k P g pk j).2.1 v.1 (i:Int)).toNat]? =some y/\tab d.Next v.2 (tab (itM d n m k P g pk j).2.2 v.1 (i:Int) * pw p.In+(i:Int))=atP P y
  rw[A,B,hm,J,db a,c]
  exact⟨I,_,o,(ta G).2.trans F⟩
end
theorem MadeBy.inj {p:Sig}{cs:List Clause}{M:Machine}(h:MadeBy p cs M){D:Det}{k:Nat}(hD:cU p cs=some (D,true)) (hk:pw p.In=(k:Int)){u:Key}(c:RchW (kyW M D (pw p.In)) k u):0<=u.1/\u.1<32/\∀v,RchW (kyW M D (pw p.In)) k v->u.1=v.1->u=v:=by
 obtain⟨h1,S,hn,hp,h0,hj,hjl⟩:=h
 rename_i d n m k' A P g W pk j
 rw[h1]at hD
 cases hD
 have:m=k:=by have:=S.im;omega
 subst this
 have hM:=gg S.cx h0 j hj
 have q:=pK S.cx hn hp hM.nm λx hx=>(hM.all x hx).2
 obtain⟨a,x,b,i⟩:=sV (p:=p) S.cx h0 S.im hj hjl c
 have:=(bK.1 b).1
 refine⟨a,by omega,λv f e=>Prod.ext e ?_⟩
 obtain⟨_,y,l,o⟩:=sV (p:=p) S.cx h0 S.im hj hjl f
 rw[e,l]at b
 cases b
 rw[i,o]
theorem vA {p:Sig}{cs:List Clause}(h2:cs.length<=2){M:Machine}(d:M.Next.length<=16){n:Nat}{D:Det}(a:PR n cs D){k:Nat}:¬ManyK M D (pw p.In) k:=by
 rintro⟨K,k1,b,c,_⟩
 have e:=a.size
 have f:=pB b c
 have g:4 ^ cs.length<=4 ^ 2:=Nat.pow_le_pow_right (by omega) (by omega)
 have:M.Next.length * D.Next.length<=16 * 16:=Nat.mul_le_mul (by omega) (by omega)
 omega
theorem xA {p:Sig}(hs:sigOk p=true){cs:List Clause}(hb:∀c∈cs,Clause.bd c) (hc:∀c∈cs,cH p c=true) (h2:cs.length<=2){M:Machine}(hm:machOk p M=true) (hf:∀n k D,PR n cs D->cU p cs=some (D,true)->pw p.In=((k:Nat):Int)->¬ManyK M D (pw p.In) k):
 ∃n k D K w,AK p M cs n k D K w/\iM p M cs=some (w.next,w.pairs,true)/\gL p M cs=some (some w,true)/\∀z,z∈brkN w.next w.pairs w.pairs.length↔∃(i:Nat) (c:Clause),z=(i:Int)/\cs[i]? =some c/\∃I:Nat->Int,(∀t,0<=I t/\I t<pw p.In)/\¬Sat c (letM p M I):=by
 have g:dJ p cs=true:=by
  unfold dJ
  rw[decide_eq_true (by omega),List.all_eq_true.2 hc];rfl
 rcases vx p M hb with ⟨_,_,b⟩ | ⟨n,k,D,K,w,d,h1,b⟩
 · exfalso
   rcases b hs hm g with h | ⟨n,k,D,_,hk,f,h1,hM⟩
   · omega
   · exact hf n k D f h1 hk hM
 · refine⟨n,k,D,K,w,d,h1,b,λz=>?_⟩
   rw[xF d]
   constructor
   · rintro⟨i,c,e,a,h⟩
     obtain⟨k1,k7⟩:=jM (hc c (bQ a))
     exact⟨i,c,e,a,(uM hm k1 k7).1 h⟩
   · rintro⟨i,c,e,a,h⟩
     obtain⟨k1,k7⟩:=jM (hc c (bQ a))
     exact⟨i,c,e,a,(uM hm k1 k7).2 h⟩
end Go.Proofs.YtleekpaohfpooaaGreat
set_option linter.unusedVariables false
set_option linter.unusedSimpArgs false
namespace Go.Proofs.YtleekpaohfpooaaGreat
open Go Go.Wk Go.Proofs
def atL (L:List Int) (q:Int):Int:=L.getD q.toNat 0
theorem gG {L:List Int}{q:Int}(b:0<=q) (c:q<L.length):idx L q=some (atL L q):=by
 obtain⟨x,a,_⟩:=gK (xs:=L) b c
 unfold atL
 rw[a]
 rw[cz b]at a
 rw[List.getD_eq_getElem?_getD,a,Option.getD_some]
def near (m:Machine) (L:List Int) (p q:Nat):Bool:=
 decide (atL L p=atL L q)&&(decide (m.Out.getD p []=m.Out.getD q [])&&decide ((m.Next.getD p []).map (atL L)=(m.Next.getD q []).map (atL L)))
theorem jR (m:Machine) (L:List Int) (q:Nat):near m L q q=true:=by simp[near]
structure Mok (l:Int) (n:Nat) (m:Machine):Prop where
 hn:1<=n/\n<=48
 next:m.Next.length=n
 out:m.Out.length=n
 nx:∀q,q<n->∃row,m.Next[q]? =some row/\m.Next.getD q []=row/\(row.length:Int)=l/\∀x∈row,0<=x/\x<n
 ou:∀q,q<n->∃row,m.Out[q]? =some row/\m.Out.getD q []=row/\(row.length:Int)=l
 hl:0<=l/\l<=4
theorem Mok.of {p:Sig}{m:Machine}(h:machOk p m=true):Mok (pw p.In) m.Next.length m:=by
 obtain⟨h1,h2,c,d,e⟩:=cB h
 have f:=gk p.In
 refine⟨⟨h1,h2⟩,rfl,c,λq a=>?_,λq a=>?_,by omega⟩
 · refine⟨m.Next[q],bJ a,by simp[a],?_⟩
   exact d _ (List.getElem_mem a)
 · have b:q<m.Out.length:=by omega
   refine⟨m.Out[q],bJ b,by simp[b],?_⟩
   exact(e _ (List.getElem_mem b)).1
section
variable {l:Int}{n:Nat}{m:Machine}(hm:Mok l n m)
include hm
theorem sd {L:List Int}(hL:L.length=n){p q:Nat}(hp:p<n) (G:q<n):ll m L p q=some (near m L p q):=by
 obtain⟨a,a1,a2,S,H⟩:=hm.nx p hp
 obtain⟨d,I,J,T,K⟩:=hm.nx q G
 obtain⟨b,c1,c2,U⟩:=hm.ou p hp
 obtain⟨c,M,N,V⟩:=hm.ou q G
 obtain⟨Y,Z⟩:=hm.hn
 obtain⟨W,X⟩:=hm.hl
 unfold ll
 rw[gG (by omega) (by omega),bI,gG (by omega) (by omega),bI]
 have P:near m L p q=(decide (atL L p=atL L q)&&(decide (b=c)&&decide (a.map (atL L)=d.map (atL L)))):=by unfold near;rw[a2,J,c2,N]
 rw[P,bne]
 by_cases A:atL L p=atL L q
 · have:((atL L p==atL L q):Bool)=true:=by rw[beq_iff_eq];exact A
   rw[this]
   simp only[zZ,cond_false,A,decide_true,Bool.true_and]
   obtain⟨o,h1,h2⟩:=cC (f:=iL m L p q) (λj (s:Int)=>s=(j:Int)/\j<=a.length/\∀i,i<j->b[i]? =c[i]?/\(a.map (atL L))[i]? =(d.map (atL L))[i]?) (λr=>r=false/\¬(b=c/\a.map (atL L)=d.map (atL L))) (λ_=>b=c/\a.map (atL L)=d.map (atL L)) 4 (λj s ⟨hs,hj,C⟩=>by
    subst hs
    unfold iL
    rw[bS,bS,bS,bS,a1,I,c1,M]
    simp only[bI]
    by_cases F:(j:Int)<(a.length:Int)
    · have k:a[j]? =some (a[j]'(by omega)):=bJ (by omega)
      have l:d[j]? =some (d[j]'(by omega)):=bJ (by omega)
      have t:b[j]? =some (b[j]'(by omega)):=bJ (by omega)
      have w:c[j]? =some (c[j]'(by omega)):=bJ (by omega)
      generalize a[j]'(by omega)=x at k
      generalize d[j]'(by omega)=y at l
      generalize b[j]'(by omega)=u at t
      generalize c[j]'(by omega)=v at w
      obtain⟨Q,aa⟩:=H x (bQ k)
      obtain⟨R,ab⟩:=K y (bQ l)
      simp only[F,decide_true,cond_true,bS,k,l,t,w,bI,gG Q (by omega:x<L.length),gG R (by omega:y<L.length),orE,bne]
      by_cases k1:u=v
      · by_cases B:atL L x=atL L y
        · have D:(u==v)=true:=by rw[beq_iff_eq];exact k1
          have E:(atL L x==atL L y)=true:=by rw[beq_iff_eq];exact B
          rw[D,E]
          refine⟨_,rfl,by omega,?_,by omega,λi g=>?_⟩
          · rw[wr' (by omega) (by omega)];omega
          · by_cases O:i=j
            · subst O
              rw[t,w,List.getElem?_map,List.getElem?_map,k,l]
              simp[k1,B]
            · exact C i (by omega)
        · have E:(atL L x==atL L y)=false:=by rw[beq_eq_false_iff_ne];exact B
          rw[E]
          simp only[Bool.not_false,Bool.or_true,cond_true]
          refine⟨_,rfl,rfl,λ⟨_,e⟩=>B ?_⟩
          have:=congrArg (λz=>z[j]?) e
          simp only[List.getElem?_map,k,l,Option.map_some,Option.some.injEq]at this
          exact this
      · have D:(u==v)=false:=by rw[beq_eq_false_iff_ne];exact k1
        rw[D]
        simp only[Bool.not_false,Bool.true_or,cond_true]
        refine⟨_,rfl,rfl,λ⟨e,_⟩=>k1 ?_⟩
        rw[e,w]at t
        exact(Option.some.inj t).symm
    · simp only[F,decide_false,cond_false]
      refine⟨_,rfl,List.ext_getElem? λi=>?_,List.ext_getElem? λi=>?_⟩
      · by_cases g:i<j
        · exact(C i g).1
        · rw[Ac (by omega),Ac (by omega)]
      · by_cases g:i<j
        · exact(C i g).2
        · rw[Ac (by rw[Ah];omega),Ac (by rw[Ah];omega)]) (2 ^ 64) 0 0 (by omega) ⟨rfl,by omega,λi g=>absurd g (Nat.not_lt_zero i)⟩ (by omega)
   rw[h1]
   match o,h2 with
   | .inl r,h2=>
    rw[h2.1]
    have:(decide (b=c)&&decide (a.map (atL L)=d.map (atL L)))=false:=by
     rw[Bool.eq_false_iff]
     intro e
     simp only[sh,decide_eq_true_eq]at e
     exact h2.2 e
    rw[this];rfl
   | .inr s,h2=>
    rw[decide_eq_true h2.1,decide_eq_true h2.2];rfl
 · have:((atL L p==atL L q):Bool)=false:=by rw[beq_eq_false_iff_ne];exact A
   rw[this]
   simp[A]
end
theorem nR {m:Machine}{L:List Int}{p q:Nat}(h:near m L p q=true):atL L p=atL L q/\m.Out.getD p []=m.Out.getD q []:=by
 simp only[near,sh,decide_eq_true_eq]at h
 exact⟨h.1,h.2.1⟩
def firstN (c:Nat->Bool) (q:Nat):Nat:=((List.range (q+1)).find? c).getD q
theorem oF {c:Nat->Bool}{q:Nat}(h:c q=true):firstN c q<=q/\c (firstN c q)=true/\∀p,p<firstN c q->c p=false:=by
 unfold firstN
 cases hf:(List.range (q+1)).find? c with
 | none=>
  rw[List.find?_eq_none]at hf
  exact absurd h (hf q (by simp))
 | some p=>
  rw[List.find?_range_eq_some]at hf
  obtain⟨h1,h2,a⟩:=hf
  rw[List.mem_range]at h2
  refine⟨by show p<=q;omega,h1,λi b=>?_⟩
  have:=a i b
  simpa using this
theorem fi (m:Machine) (L:List Int) (q:Nat):firstN (λp=>near m L p q) q<=q/\near m L (firstN (λp=>near m L p q) q) q=true/\∀p,p<firstN (λp=>near m L p q) q->near m L p q=false:=oF (c:=λp=>near m L p q) (jR m L q)
theorem me {c:Nat->Bool}{q p:Nat}(h:c q=true) (h1:c p=true) (h2:∀i,i<p->c i=false):p=firstN c q:=by
 obtain⟨a1,a2,b⟩:=oF h
 rcases Nat.lt_trichotomy p (firstN c q) with a | a | a
 · rw[b p a]at h1;cases h1
 · exact a
 · rw[h2 _ a]at a2;cases a2
def cQ (m:Machine) (L:List Int):List Int:=(List.range L.length).map (λq=>((firstN (λp=>near m L p q) q:Nat):Int))
theorem cN (m:Machine) (L:List Int):(cQ m L).length=L.length:=by simp[cQ]
theorem ka {m:Machine}{L:List Int}{q:Nat}(a:q<L.length):atL (cQ m L) q=(firstN (λp=>near m L p q) q:Nat):=by
 simp[atL,cQ,a]
def Low (L:List Int):Prop:=∀q:Nat,q<L.length->0<=atL L q/\atL L q<=q
theorem dK (m:Machine) (L:List Int):Low (cQ m L):=λq a=>by
 rw[cN]at a
 rw[ka a]
 have:=(fi m L q).1
 omega
theorem wV {m:Machine}{L:List Int}(h:Low L){q:Nat}(b:q<L.length):atL L q<=atL (cQ m L) q:=by
 rw[ka b]
 obtain⟨a1,a2,_⟩:=fi m L q
 have h2:=(h (firstN (λp=>near m L p q) q) (by omega)).2
 have a:=(nR a2).1
 rw[a]at h2
 exact h2
def sumL:List Int->Int
 | []=>0
 | x::xs=>x+sumL xs
theorem vt:∀{xs ys:List Int},xs.length=ys.length->(∀(i:Nat) x y,xs[i]? =some x->ys[i]? =some y->x<=y)->sumL xs<=sumL ys/\(sumL xs=sumL ys->xs=ys)
 | [],[],_,_=>⟨Int.le_refl _,λ_=>rfl⟩
 | [],_::_,h,_=>by cases h
 | _::_,[],h,_=>by cases h
 | x::xs,y::ys,h,hh=>by
  have h1:=hh 0 x y rfl rfl
  obtain⟨h2,c⟩:=vt (xs:=xs) (ys:=ys) (by simpa using h) λi a b ha hb=>hh (i+1) a b (by simpa using ha) (by simpa using hb)
  refine⟨by simp only[sumL];omega,λe=>?_⟩
  simp only[sumL]at e
  rw[c (by omega),show x=y from by omega]
theorem mU {n:Int}:∀{xs:List Int},(∀x∈xs,0<=x/\x<=n)->0<=sumL xs/\sumL xs<=xs.length * n
 | [],_=>by simp[sumL]
 | x::xs,h=>by
  have h1:=h x (List.mem_cons_self ..)
  have h2:=mU (n:=n) (xs:=xs) λy hy=>h y (List.mem_cons_of_mem _ hy)
  simp only[sumL,List.length_cons]
  have e:((xs.length+1:Nat):Int) * n=xs.length * n+n:=by rw[Int.natCast_add,Int.add_mul];simp
  omega
def left (L:List Int):Nat:=(2400-sumL L).toNat
theorem tU {L:List Int}{q:Nat}{x:Int}(h:L[q]? =some x):atL L q=x:=by simp[atL,h]
theorem nO {L:List Int}(h:Low L) (hl:L.length<=48):∀x∈L,0<=x/\x<=48:=λx hx=>by
 obtain⟨q,a⟩:=List.mem_iff_getElem?.1 hx
 have b:=(bK.1 a).1
 have:=h q b
 rw[tU a]at this
 omega
theorem rG {m:Machine}{L:List Int}(h:Low L) (hl:L.length<=48) (e:cQ m L≠L):left (cQ m L)<left L:=by
 have b:=vt (xs:=L) (ys:=cQ m L) (cN m L).symm λi x y hx hy=>by
  have c:=(bK.1 hx).1
  have:=wV (m:=m) h c
  rw[tU hx,tU hy]at this
  exact this
 have c:sumL L<sumL (cQ m L):=by
  rcases Int.lt_or_eq_of_le b.1 with a | a
  · exact a
  · exact absurd (b.2 a).symm e
 have d:(cQ m L).length<=48:=by rw[cN];exact hl
 have f:=mU (nO (dK m L) d)
 have g:((cQ m L).length:Int) * 48<=48 * 48:=Int.mul_le_mul_of_nonneg_right (by omega) (by omega)
 unfold left
 omega
def rest (m:Machine):Nat->List Int->List Int
 | 0,L=>L
 | k+1,L=>if cQ m L=L then L else rest m k (cQ m L)
theorem tl {m:Machine}{L:List Int}(h:cQ m L=L):∀k,rest m k L=L
 | 0=>rfl
 | k+1=>by simp[rest,h]
theorem nV {m:Machine}:∀(k:Nat) (L:List Int),Low L->Low (rest m k L)/\(rest m k L).length=L.length
 | 0,L,h=>⟨h,rfl⟩
 | k+1,L,h=>by
  simp only[rest]
  split
  · exact⟨h,rfl⟩
  · have:=nV (m:=m) k _ (dK m L)
    rw[cN]at this
    exact this
section
variable {l:Int}{n:Nat}{m:Machine}(hm:Mok l n m)
include hm
theorem zF {L:List Int}(hL:L.length=n):cntM (eX m L) L.length 0 ([]:List Int)=some (.inr (cQ m L)):=by
 obtain⟨r,t⟩:=hm.hn
 obtain⟨s,h1,h2⟩:=cv (f:=eX m L) (λj s=>s=(List.range j).map (λq=>((firstN (λp=>near m L p q) q:Nat):Int))) L.length (s:=[]) rfl (λj s hj hs=>by
  subst hs
  unfold eX
  obtain⟨a1,a2,g⟩:=fi m L j
  obtain⟨o,k1,a⟩:=cC (f:=gC m L j) (λi (s:Int)=>s=(i:Int)/\i<=j/\∀p,p<i->near m L p j=false) (λ_=>False) (λs=>s=(firstN (λp=>near m L p j) j:Nat)) j (λi s ⟨hs,k,b⟩=>by
   subst hs
   unfold gC
   rw[sd hm hL (by omega) (by omega),bI]
   cases hn:near m L i j with
   | true=>exact⟨_,rfl,by rw[me (c:=λp=>near m L p j) (jR m L j) hn b]⟩
   | false=>
    have l:i≠j:=λe=>by rw[e,jR]at hn;cases hn
    refine⟨_,rfl,by omega,?_,by omega,λp hp=>?_⟩
    · rw[wr' (by omega) (by omega)];omega
    · by_cases d:p=i
      · rw[d];exact hn
      · exact b p (by omega)) (2 ^ 64) 0 0 (by omega) ⟨rfl,by omega,λp hp=>absurd hp (Nat.not_lt_zero p)⟩ (by omega)
  match o,a with
  | .inr s,a=>
   rw[show((0:Int))=((0:Int)) from rfl,k1,bI,bV,a,app1 (by simp;omega) rfl]
   exact⟨_,rfl,by rw[List.range_succ,List.map_append];rfl⟩)
 rw[h1,h2]
 rfl
omit hm in
theorem tC (xs ys:List Int):gF xs ys=some (decide (xs=ys)):=by
 unfold gF
 rw[wI]
 by_cases h:xs.length=ys.length
 · simp only[h,decide_true,zZ,cond_false]
   rw[← h,rv (f:=fR xs ys) (r:=false) (λx y=>decide (x=y)) h (λi x y hx hy=>by
    unfold fR
    rw[bS,hx,bI,bS,hy,bI]
    by_cases e:x=y
    · subst e;simp
    · have a:(x==y)=false:=by simp[e]
      simp[bne,a,e]),lY h]
   by_cases e:xs=ys
   · simp[e,aft]
   · simp[e,aft]
 · have:¬(xs=ys):=λe=>h (by rw[e])
   simp[h,this]
theorem uE:∀(k K:Nat) (L:List Int),L.length=n->Low L->left L<k->k<=K->bU (eW m) K L=some (.inl (rest m k L))
 | 0,_,_,_,_,h,_=>absurd h (Nat.not_lt_zero _)
 | k+1,K,L,hL,hlow,hk,hK=>by
  obtain⟨b,c⟩:=hm.hn
  rw[gQ (by omega)]
  have hb:eW m L=some (if cQ m L=L then .inl L else .inr (.inr (cQ m L))):=by
   unfold eW
   rw[zF hm hL,bI,bV,tC,bI]
   by_cases a:cQ m L=L
   · simp[a]
   · simp[a]
  rw[hb,bI]
  simp only[rest]
  by_cases a:cQ m L=L
  · rw[if_pos a,if_pos a];rfl
  · rw[if_neg a,if_neg a,kE]
    have:=rG (m:=m) hlow (by omega) a
    exact uE k (K-1) _ (by rw[cN];exact hL) (dK m L) (by omega) (by omega)
theorem tV {q:Nat}(d:q<n) (p:Nat):near m (bO n 0) p q=decide (m.Out.getD p []=m.Out.getD q [])\/n<=p:=by
 by_cases hp:p<n
 · left
   have h0:∀x:Int,atL (bO n 0) x=0:=λx=>by
    unfold atL
    rw[List.getD_eq_getElem?_getD,hV]
    split <;> rfl
   unfold near
   obtain⟨a,a1,a2,g,i⟩:=hm.nx p hp
   obtain⟨b,j,c,k,l⟩:=hm.nx q d
   have:a.map (atL (bO n 0))=b.map (atL (bO n 0)):=by
    have e:∀r:List Int,r.map (atL (bO n 0))=bO r.length 0:=λr=>by
     induction r with
     | nil=>rfl
     | cons x r f=>rw[List.map_cons,f,h0];rfl
    rw[e,e,show a.length=b.length from by omega]
   rw[a2,c,this,h0,h0]
   simp
 · exact .inr (by omega)
end
section
variable {l:Int}{n:Nat}{m:Machine}(hm:Mok l n m)
include hm
def Apart (m:Machine) (L:List Int):Prop:=∀p q:Nat,p<L.length->q<L.length->atL L p=atL L q->m.Out.getD p []=m.Out.getD q []
omit hm in
theorem mj (m:Machine) (L:List Int):Apart m (cQ m L):=λp q hp e c=>by
 rw[cN]at hp e
 rw[ka hp,ka e]at c
 have a:=(fi m L p).2.1
 have b:=(fi m L q).2.1
 have a:=nR a
 have b:=nR b
 have c:firstN (λd=>near m L d p) p=firstN (λd=>near m L d q) q:=by omega
 rw[← a.2,← b.2,c]
omit hm in
theorem rb {f:Int->List Int->Option (List Int⊕(List Int⊕List Int))}{c:Nat->Bool}{q:Nat}{s:List Int}(a:c q=true)
 (h:∀i:Nat,i<=q->f (i:Int) s=some (if c i then .inr (.inl (s.set q (i:Int))) else .inr (.inr s))):∀(k j:Nat),j+k=q+1->(∀i,i<j->c i=false)->cntM f k (j:Int) s=some (.inr (s.set q ((firstN c q:Nat):Int)))
 | 0,j,hj,hall=>by rw[hall q (by omega)]at a;cases a
 | k+1,j,hj,hall=>by
  show bH (f j s) _=_
  rw[h j (by omega),bI]
  cases hc:c j with
  | true=>
   rw[← me a hc hall]
   rfl
  | false=>
   simp only[Bool.false_eq_true,if_false,kE]
   have:=rb a h k (j+1) (by omega) λi b=>by
    by_cases e:i=j
    · rw[e];exact hc
    · exact hall i (by omega)
   exact this
omit hm in
theorem oL {f:Int->List Int->Option (List Int⊕(List Int⊕List Int))}(c:Nat->Bool){q:Nat}{s:List Int}(b:c q=true) (hs:q<s.length)
 (h:∀i:Nat,i<=q->f (i:Int) s=some (if c i then .inr (.inl (s.set q (i:Int))) else .inr (.inr s))):cntM f (q+1) 0 s=some (.inr (s.set q ((firstN c q:Nat):Int))):=by
 exact rb b h (q+1) 0 (by omega) λi a=>absurd a (Nat.not_lt_zero i)
theorem uS:cntM (fU m) n 0 (bO n (0:Int))=some (.inr (cQ m (bO n 0))):=by
 obtain⟨w,x⟩:=hm.hn
 obtain⟨s,h1,h2,b⟩:=cv (f:=fU m) (λj (s:List Int)=>s.length=n/\∀q:Nat,q<j->s[q]? =some ((firstN (λp=>near m (bO n 0) p q) q:Nat):Int)) n (s:=bO n (0:Int)) ⟨by simp,λq a=>absurd a (Nat.not_lt_zero q)⟩ (λj s hj ⟨h2,b⟩=>by
  unfold fU
  have r:IntKind.i64.wrap ((j:Int)+1)=((j+1:Nat):Int):=by rw[wr' (by omega) (by omega)];omega
  have hr:rng ((j+1:Nat):Int)=some ():=by unfold rng;rw[if_pos (by omega)]
  obtain⟨d,g,k,u⟩:=hm.ou j hj
  have hs:=oL (f:=iV m j) (λp=>near m (bO n 0) p j) (q:=j) (s:=s) (jR _ _ _) (by omega) (λi v=>by
   obtain⟨c,c1,c2,t⟩:=hm.ou i (by omega)
   unfold iV
   have o:=(tV hm hj i).resolve_right (by omega)
   rw[o,c2,k,bS,bS,c1,g]
   simp only[bI,ij]
   have:idx s (j:Int)=some (s[j]'(by omega)):=by rw[bS];exact bJ (by omega)
   by_cases e:d=c
   · subst e
     simp only[decide_true,cond_true,this,bI,qc (show j<s.length by omega),if_true]
   · have l:¬c=d:=λh=>e h.symm
     simp[e,l])
  rw[r,hr,bI,Int.sub_zero,z7,hs]
  refine⟨_,rfl,by rw[List.length_set];exact h2,λq a=>?_⟩
  by_cases e:q=j
  · subst e;rw[List.getElem?_set_self (by omega)]
  · rw[List.getElem?_set_ne (λh=>e h.symm)]
    exact b q (by omega))
 rw[h1]
 congr 2
 apply List.ext_getElem?
 intro q
 by_cases a:q<n
 · rw[b q a];simp[cQ,a]
 · rw[Ac (by omega),Ac (by rw[cN];simp;omega)]
theorem yU {L:List Int}(hL:L.length=n) (ha:Apart m L){p q:Nat}(hp:p<n) (u:q<n){row:List Int}(hr:m.Next[q]? =some row):
 cntM (ff m L q p) row.length 0 (atL L q==atL L p)=some (.inr (near m L p q)):=by
 obtain⟨b,a1,a2,B,k⟩:=hm.nx p hp
 obtain⟨a,i,l,C,o⟩:=hm.nx q u
 rw[i]at hr
 obtain rfl:a=row:=Option.some.inj hr
 obtain⟨s,h1,h2⟩:=cv (f:=ff m L q p) (λj (s:Bool)=>s=(decide (atL L p=atL L q)&&decide ((b.map (atL L)).take j=(a.map (atL L)).take j))) a.length (s:=(atL L q==atL L p)) (by
  by_cases e:atL L p=atL L q
  · simp[e]
  · have r:¬atL L q=atL L p:=λh=>e h.symm
    simp[e,r]) (λj s hj hs=>by
  have c:b[j]? =some (b[j]'(by omega)):=bJ (by omega)
  have d:a[j]? =some (a[j]'(by omega)):=bJ (by omega)
  generalize b[j]'(by omega)=x at c
  generalize a[j]'(by omega)=y at d
  obtain⟨z,D⟩:=k x (bQ c)
  obtain⟨A,E⟩:=o y (bQ d)
  unfold ff
  rw[bS,bS,a1,i]
  simp only[bI,bS,c,d,gG z (by omega:x<L.length),gG A (by omega:y<L.length),andE]
  refine⟨_,rfl,?_⟩
  have v:(b.map (atL L)).take (j+1)=(b.map (atL L)).take j++[atL L x]:=by rw[Ae,List.getElem?_map,c];rfl
  have w:(a.map (atL L)).take (j+1)=(a.map (atL L)).take j++[atL L y]:=by rw[Ae,List.getElem?_map,d];rfl
  have t:((b.map (atL L)).take j).length=((a.map (atL L)).take j).length:=by simp;omega
  rw[v,w,hs,Bool.and_assoc]
  congr 1
  rw[Bool.eq_iff_iff]
  simp only[sh,decide_eq_true_eq,beq_iff_eq]
  constructor
  · rintro⟨h1,h2⟩
    rw[h1,h2]
  · intro h
    have:=List.append_inj h t
    exact⟨this.1,by simpa using this.2.symm⟩)
 rw[h1,h2]
 congr 2
 unfold near
 rw[a2,l]
 rw[List.take_of_length_le (by rw[Ah];omega),List.take_of_length_le (by rw[Ah];omega)]
 by_cases g:atL L p=atL L q
 · have:=ha p q (by omega) (by omega) g
   rw[decide_eq_true g,decide_eq_true this]
   rfl
 · rw[decide_eq_false g]
   rfl
theorem yY {L:List Int}(hL:L.length=n) (ha:Apart m L):cntM (fW m L) L.length 0 (bO n (0:Int))=some (.inr (cQ m L)):=by
 obtain⟨o,r⟩:=hm.hn
 obtain⟨s,h1,h2,b⟩:=cv (f:=fW m L) (λj (s:List Int)=>s.length=n/\∀q:Nat,q<j->s[q]? =some ((firstN (λp=>near m L p q) q:Nat):Int)) L.length (s:=bO n (0:Int)) ⟨by simp,λq a=>absurd a (Nat.not_lt_zero q)⟩ (λj s hj ⟨h2,b⟩=>by
  unfold fW
  have d:IntKind.i64.wrap ((j:Int)+1)=((j+1:Nat):Int):=by rw[wr' (by omega) (by omega)];omega
  have hr:rng ((j+1:Nat):Int)=some ():=by unfold rng;rw[if_pos (by omega)]
  obtain⟨row,c,g,k⟩:=hm.nx j (by omega)
  have hs:=oL (f:=iW m L j) (λp=>near m L p j) (q:=j) (s:=s) (jR _ _ _) (by omega) (λi l=>by
   unfold iW
   rw[gG (by omega) (by omega),bI,gG (by omega) (by omega),bI,bS,c,bI,yU hm hL ha (by omega) (by omega) c,bI,bV]
   have:idx s (j:Int)=some (s[j]'(by omega)):=by rw[bS];exact bJ (by omega)
   cases near m L i j with
   | true=>simp only[cond_true,this,bI,qc (show j<s.length by omega),if_true]
   | false=>rfl)
  rw[d,hr,bI,Int.sub_zero,z7,hs]
  refine⟨_,rfl,by rw[List.length_set];exact h2,λq a=>?_⟩
  by_cases e:q=j
  · subst e;rw[List.getElem?_set_self (by omega)]
  · rw[List.getElem?_set_ne (λh=>e h.symm)]
    exact b q (by omega))
 rw[h1]
 congr 2
 apply List.ext_getElem?
 intro q
 by_cases a:q<n
 · rw[b q (by omega)];simp[cQ,a,hL]
 · rw[Ac (by omega),Ac (by rw[cN];omega)]
theorem tY:∀(k K:Nat) (L:List Int),L.length=n->Low L->Apart m L->left L<k->k<=K->bU (fV m) K L=some (.inl (rest m k L))
 | 0,_,_,_,_,_,h,_=>absurd h (Nat.not_lt_zero _)
 | k+1,K,L,hL,hlow,ha,hk,hK=>by
  obtain⟨b,c⟩:=hm.hn
  rw[gQ (by omega)]
  have hb:fV m L=some (if cQ m L=L then .inl L else .inr (.inr (cQ m L))):=by
   unfold fV
   rw[dD (by omega) rfl,bI,hL]
   have:=yY hm hL ha
   rw[hL]at this
   rw[this,bI,bV,ij,bI]
   by_cases a:cQ m L=L
   · simp[a]
   · simp[a]
  rw[hb,bI]
  simp only[rest]
  by_cases a:cQ m L=L
  · rw[if_pos a,if_pos a];rfl
  · rw[if_neg a,if_neg a,kE]
    have:=rG (m:=m) hlow (by omega) a
    exact tY k (K-1) _ (by rw[cN];exact hL) (dK m L) (mj m L) (by omega) (by omega)
omit hm in
theorem low0 (n:Nat):Low (bO n 0):=λq a=>by
 have:atL (bO n 0) q=0:=by
  unfold atL
  rw[List.getD_eq_getElem?_getD,hV]
  split <;> rfl
 rw[this];omega
theorem tT:∃L,gP m=some L/\gi m=some L/\Low L/\L.length=n:=by
 obtain⟨e,f⟩:=hm.hn
 have a:(bO n (0:Int)).length=n:=by simp
 have d:left (bO n 0)<2500:=by
  have:=mU (nO (low0 n) (by omega))
  unfold left;omega
 have c:left (cQ m (bO n 0))<2500:=by
  have:=mU (nO (dK m (bO n 0)) (by rw[cN];omega))
  unfold left;omega
 refine⟨rest m 2500 (cQ m (bO n 0)),?_,?_,?_⟩
 · unfold gP
   rw[hm.next,dD (by omega) rfl,bI,uE hm 2501 (2 ^ 64) _ a (low0 n) (by omega) (by omega),bI,mF]
   rw[show rest m 2501 (bO n 0)=if cQ m (bO n 0)=bO n 0 then bO n 0 else rest m 2500 (cQ m (bO n 0)) from rfl]
   split
   · rename_i b;rw[b,tl b]
   · rfl
 · unfold gi
   rw[hm.next,dD (by omega) rfl,bI,a,uS hm,bI,bV,tY hm 2500 (2 ^ 64) _ (by rw[cN];exact a) (dK _ _) (mj _ _) c (by omega),bI,mF]
 · have:=nV (m:=m) 2500 _ (dK m (bO n 0))
   rw[cN,a]at this
   exact this
end
end Go.Proofs.YtleekpaohfpooaaGreat
set_option linter.unusedVariables false
set_option linter.unusedSimpArgs false
namespace Go.Proofs.YtleekpaohfpooaaGreat
open Go Go.Wk Go.Proofs
theorem pT {m:Machine}:∀(k:Nat) (L:List Int),Low L->L.length<=48->left L<k->cQ m (rest m k L)=rest m k L
 | 0,_,_,_,h=>absurd h (Nat.not_lt_zero _)
 | k+1,L,hlow,hl,h=>by
  simp only[rest]
  by_cases a:cQ m L=L
  · rw[if_pos a,a]
  · rw[if_neg a]
    have:=rG hlow hl a
    exact pT k _ (dK m L) (by rw[cN];exact hl) (by omega)
def Stable (m:Machine) (n:Nat) (E:Nat->Nat->Prop):Prop:=∀p q,p<n->q<n->E p q->m.Out.getD p []=m.Out.getD q []/\∀(i:Nat) a b,(m.Next.getD p [])[i]? =some a->(m.Next.getD q [])[i]? =some b->E a.toNat b.toNat
section
variable {l:Int}{n:Nat}{m:Machine}(hm:Mok l n m){E:Nat->Nat->Prop}(hE:Stable m n E)
include hm hE
theorem oE {L:List Int}(hL:L.length=n) (h:∀p q,p<n->q<n->E p q->atL L p=atL L q):∀p q,p<n->q<n->E p q->atL (cQ m L) p=atL (cQ m L) q:=λp q hp d g=>by
 obtain⟨k1,j⟩:=hE p q hp d g
 obtain⟨v,_,a2,w,k⟩:=hm.nx p hp
 obtain⟨e,_,f,y,l⟩:=hm.nx q d
 rw[a2,f]at j
 have o:=h p q hp d g
 have r:(m.Next.getD p []).map (atL L)=(m.Next.getD q []).map (atL L):=by
  rw[a2,f]
  apply List.ext_getElem?
  intro i
  rw[List.getElem?_map,List.getElem?_map]
  cases ha:v[i]? with
  | none=>
   rw[List.getElem?_eq_none_iff]at ha
   rw[Ac (by omega)]
  | some a=>
   have A:=(bK.1 ha).1
   have hb:e[i]? =some (e[i]'(by omega)):=bJ (by omega)
   generalize e[i]'(by omega)=b at hb
   rw[hb]
   obtain⟨B,C⟩:=k a (bQ ha)
   obtain⟨D,F⟩:=l b (bQ hb)
   have:=h a.toNat b.toNat (by omega) (by omega) (j i a b ha hb)
   rw[show((a.toNat:Nat):Int)=a from by omega,show((b.toNat:Nat):Int)=b from by omega]at this
   simp[this]
 have hn:∀x,near m L x p=near m L x q:=λx=>by
  unfold near
  rw[o,k1,r]
 rw[ka (by omega),ka (by omega)]
 congr 1
 obtain⟨z,s,t⟩:=fi m L p
 exact me (c:=λx=>near m L x q) (jR m L q) (by rw[← hn];exact s) (λi u=>by rw[← hn];exact t i u)
theorem coarse:∀(k:Nat) (L:List Int),L.length=n->(∀p q,p<n->q<n->E p q->atL L p=atL L q)->∀p q,p<n->q<n->E p q->atL (rest m k L) p=atL (rest m k L) q
 | 0,_,_,h=>h
 | k+1,L,hL,h=>by
  simp only[rest]
  split
  · exact h
  · exact coarse k _ (by rw[cN];exact hL) (oE hm hE hL h)
end
section
variable {l:Int}{n:Nat}{m:Machine}(hm:Mok l n m)
include hm
theorem tS:∃L,gP m=some L/\gi m=some L/\Low L/\L.length=n/\cQ m L=L/\∀E,Stable m n E->∀p q,p<n->q<n->E p q->atL L p=atL L q:=by
 obtain⟨f,g⟩:=hm.hn
 have a:(bO n (0:Int)).length=n:=by simp
 have d:left (bO n 0)<2500:=by
  have:=mU (nO (low0 n) (by omega))
  unfold left;omega
 have c:left (cQ m (bO n 0))<2500:=by
  have:=mU (nO (dK m (bO n 0)) (by rw[cN];omega))
  unfold left;omega
 refine⟨rest m 2500 (cQ m (bO n 0)),?_,?_,?_,?_,?_,?_⟩
 · unfold gP
   rw[hm.next,dD (by omega) rfl,bI,uE hm 2501 (2 ^ 64) _ a (low0 n) (by omega) (by omega),bI,mF]
   rw[show rest m 2501 (bO n 0)=if cQ m (bO n 0)=bO n 0 then bO n 0 else rest m 2500 (cQ m (bO n 0)) from rfl]
   split
   · rename_i b;rw[b,tl b]
   · rfl
 · unfold gi
   rw[hm.next,dD (by omega) rfl,bI,a,uS hm,bI,bV,tY hm 2500 (2 ^ 64) _ (by rw[cN];exact a) (dK _ _) (mj _ _) c (by omega),bI,mF]
 · exact(nV (m:=m) 2500 _ (dK m (bO n 0))).1
 · have:=(nV (m:=m) 2500 _ (dK m (bO n 0))).2
   rw[cN,a]at this
   exact this
 · exact pT 2500 _ (dK m _) (by rw[cN];omega) c
 · intro E hE
   refine coarse hm hE 2500 _ (by rw[cN];exact a) (oE hm hE a λp q hp e _=>?_)
   unfold atL
   rw[List.getD_eq_getElem?_getD,List.getD_eq_getElem?_getD,hV,hV]
   split <;> split <;> rfl
end
theorem pi {m:Machine}{L:List Int}(h:cQ m L=L){q:Nat}(c:q<L.length):∃p:Nat,atL L q=(p:Int)/\p<=q/\near m L p q=true:=by
 obtain⟨a,b,d⟩:=fi m L q
 refine⟨_,?_,a,b⟩
 have:=ka (m:=m) c
 rw[h]at this
 exact this
end Go.Proofs.YtleekpaohfpooaaGreat
set_option linter.unusedVariables false
set_option linter.unusedSimpArgs false
namespace Go.Proofs.YtleekpaohfpooaaGreat
open Go Go.Wk Go.Proofs
def stepN (L:List Int) (s:List Int×List Int) (x:Int):List Int×List Int:=(addN s.1 (atL L x),s.2++[cO (addN s.1 (atL L x)) (atL L x)])
theorem lI {n:Nat}{L:List Int}(hL:Low L) (hl:L.length=n) (hn:n<=48):∀(row:List Int) (s:List Int×List Int),(∀x∈row,0<=x/\x<n)->Names n s.1 ->
 Names n (row.foldl (stepN L) s).1/\(row.foldl (stepN L) s).2.length=s.2.length+row.length/\∀(k:Nat) v,s.1[k]? =some v->(row.foldl (stepN L) s).1[k]? =some v
 | [],s,_,h=>⟨h,rfl,λ_ _ h=>h⟩
 | x::row,s,hr,h=>by
  obtain⟨d,e⟩:=hr x (List.mem_cons_self ..)
  have hx:=hL x.toNat (by omega)
  rw[show((x.toNat:Nat):Int)=x from by omega]at hx
  obtain⟨a1,a2⟩:=h.add (u:=atL L x) hx.1 (by omega)
  obtain⟨a,b,c⟩:=lI hL hl hn row (stepN L s x) (λy hy=>hr y (List.mem_cons_of_mem _ hy)) a1
  rw[List.foldl_cons]
  refine⟨a,?_,λk v hk=>c k v (a2 k v hk)⟩
  rw[b]
  simp[stepN];omega
section
variable {l:Int}{n:Nat}{m:Machine}(hm:Mok l n m){L:List Int}(hL:Low L) (hl:L.length=n)
include hm hL hl
omit hm in
theorem uf {x:Int}(a:0<=x) (b:x<n):0<=atL L x/\atL L x<n:=by
 have hx:=hL x.toNat (by omega)
 rw[show((x.toNat:Nat):Int)=x from by omega]at hx
 omega
theorem yC {b:List Int}(d:Names n b){row:List Int}(hr:∀x∈row,0<=x/\x<n) (e:row.length<=4):cntM (jL L row) row.length 0 (b,[])=some (.inr (row.foldl (stepN L) (b,[]))):=by
 obtain⟨m,o⟩:=hm.hn
 refine(og (f:=jL L row) (stepN L) (λj s=>Names n s.1/\s.2.length=j) (λj x s hj ⟨h1,h2⟩=>?_) ⟨d,rfl⟩).1
 obtain⟨c,k⟩:=hr x (bQ hj)
 obtain⟨g,i⟩:=uf hL hl c k
 have l:=(bK.1 hj).1
 have e:=h1.len
 obtain⟨a1,a2⟩:=h1.add g i
 unfold jL
 rw[bS,hj,bI,gG c (by omega),bI,sP,bI,td]
 by_cases a:atL L x∈s.1
 · simp only[a,decide_true,zZ,cond_false,bI]
   rw[app1 (by omega) rfl]
   refine⟨?_,a1,by simp[stepN];omega⟩
   simp[stepN,addN,a]
 · simp only[a,decide_false,Bool.not_false,cond_true,bI]
   rw[app1 (by omega) rfl,bI,bI]
   dsimp only
   rw[app1 (by omega) rfl]
   refine⟨?_,a1,by simp[stepN];omega⟩
   simp[stepN,addN,a,vP a]
end
end Go.Proofs.YtleekpaohfpooaaGreat
set_option linter.unusedVariables false
set_option linter.unusedSimpArgs false
namespace Go.Proofs.YtleekpaohfpooaaGreat
open Go Go.Wk Go.Proofs
def Ext (A B:List Int):Prop:=∀(k:Nat) v,A[k]? =some v->B[k]? =some v
theorem Ext.trans {A B C:List Int}(h1:Ext A B) (h2:Ext B C):Ext A C:=λk v h=>h2 k v (h1 k v h)
theorem vM {N:List Int}(h:N.Nodup){i j:Nat}{u:Int}(hi:N[i]? =some u) (hj:N[j]? =some u):i=j:=by
 have h1:=(bK.1 hi)
 have h2:=(bK.1 hj)
 obtain⟨a1,a2⟩:=h1
 obtain⟨b,a⟩:=h2
 exact(List.getElem_inj h).1 (by rw[a2,a])
theorem ml {N:List Int}(h:N.Nodup){i:Nat}{u:Int}(hi:N[i]? =some u):cO N u=(i:Int):=
 tc hi λj hj e=>by have:=vM h hi e;omega
theorem xz (A:List Int) (u:Int):u∈addN A u:=by
 unfold addN
 split
 · assumption
 · simp
section
variable {l:Int}{n:Nat}{m:Machine}(hm:Mok l n m){L:List Int}(hL:Low L) (hl:L.length=n)
include hm hL hl
theorem pj {row:List Int}(hr:∀x∈row,0<=x/\x<n){s:List Int×List Int}(hs:Names n s.1):Names n (row.foldl (stepN L) s).1/\Ext s.1 (row.foldl (stepN L) s).1:=by
 obtain⟨h1,_,a⟩:=lI hL hl hm.hn.2 row s hr hs
 exact⟨h1,a⟩
theorem sM {N:List Int}(a:N.Nodup):∀(row:List Int) (s:List Int×List Int),(∀x∈row,0<=x/\x<n)->Names n s.1->Ext (row.foldl (stepN L) s).1 N ->
 (row.foldl (stepN L) s).2=s.2++row.map (λx=>cO N (atL L x))/\(∀x∈row,atL L x∈N)
 | [],s,_,_,_=>by simp
 | x::row,s,hr,hs,he=>by
  obtain⟨j,k⟩:=hr x (List.mem_cons_self ..)
  obtain⟨f,g⟩:=uf hL hl j k
  obtain⟨a1,a2⟩:=hs.add f g
  have d:∀y∈row,0<=y/\y<n:=λy hy=>hr y (List.mem_cons_of_mem _ hy)
  rw[List.foldl_cons]at he ⊢
  obtain⟨l,e⟩:=pj hm hL hl d (s:=stepN L s x) a1
  obtain⟨c1,c2⟩:=sM a row (stepN L s x) d a1 he
  obtain⟨i,c⟩:=List.mem_iff_getElem?.1 (xz s.1 (atL L x))
  have b:=he i _ (e i _ c)
  have hp:cO (addN s.1 (atL L x)) (atL L x)=cO N (atL L x):=by rw[ml a1.1 c,ml a b]
  refine⟨?_,λy hy=>?_⟩
  · rw[c1]
    simp[stepN,hp]
  · rcases List.mem_cons.1 hy with rfl | hy
    · exact bQ b
    · exact c2 y hy
abbrev RSt:=List Int×Int×List (List Int)×List (List Int)
def rowN (m:Machine) (s:RSt):List Int:=m.Next.getD (s.1.getD s.2.1.toNat 0).toNat []
def roundL (m:Machine) (L:List Int) (s:RSt):RSt:=
 (((rowN m s).foldl (stepN L) (s.1,[])).1,s.2.1+1,s.2.2.1++[((rowN m s).foldl (stepN L) (s.1,[])).2],s.2.2.2++[m.Out.getD (s.1.getD s.2.1.toNat 0).toNat []])
def red (m:Machine) (L:List Int):Nat->RSt
 | 0=>([0],0,[],[])
 | k+1=>roundL m L (red m L k)
structure RI (n:Nat) (m:Machine) (L:List Int) (k:Nat):Prop where
 names:Names n (red m L k).1
 rep:∀v∈(red m L k).1,atL L v=v
 at_:(red m L k).2.1=(k:Int)
 zero:(red m L k).1[0]? =some 0
 lx:(red m L k).2.2.1.length=k
 lo:(red m L k).2.2.2.length=k
 rows:∀N:List Int,N.Nodup->Ext (red m L k).1 N->∀(j:Nat) v,j<k->(red m L k).1[j]? =some v->(red m L k).2.2.1[j]? =some ((m.Next.getD v.toNat []).map (λx=>cO N (atL L x)))/\(red m L k).2.2.2[j]? =some (m.Out.getD v.toNat [])/\∀x∈m.Next.getD v.toNat [],atL L x∈N
variable (hfix:∀q:Nat,q<n->atL L (atL L q)=atL L q)
include hfix
omit hfix in
theorem ri0:RI n m L 0:=by
 obtain⟨d,e⟩:=hm.hn
 have h0:=hL 0 (by omega)
 have hn:Names n (red m L 0).1:=by
  refine⟨by show[(0:Int)].Nodup;simp,λx hx=>?_⟩
  have:x=0:=by simpa [red] using hx
  omega
 refine⟨hn,λv c=>?_,rfl,rfl,rfl,rfl,λN _ _ j v hj=>absurd hj (Nat.not_lt_zero j)⟩
 have:v=0:=by simpa [red] using c
 subst this
 have a:=h0.1
 have b:=h0.2
 simp only[Int.natCast_zero]at a b
 omega
omit hm hL hl hfix in
theorem xf {k:Nat}(h:RI n m L k){q:Int}(a:(red m L k).1[k]? =some q):0<=q/\q<n/\rowN m (red m L k)=m.Next.getD q.toNat []/\(red m L k).1.getD (red m L k).2.1.toNat 0=q:=by
 obtain⟨b,c⟩:=h.names.2 q (bQ a)
 have e:(red m L k).1.getD (red m L k).2.1.toNat 0=q:=by
  rw[h.at_,z7,List.getD_eq_getElem?_getD,a];rfl
 exact⟨b,c,by unfold rowN;rw[e],e⟩
theorem yl {k:Nat}(h:RI n m L k) (hk:k<(red m L k).1.length):RI n m L (k+1)/\Ext (red m L k).1 (red m L (k+1)).1:=by
 have f:(red m L k).1[k]? =some ((red m L k).1[k]'hk):=bJ hk
 generalize(red m L k).1[k]'hk=q at f
 obtain⟨H,I,d,w⟩:=xf h f
 obtain⟨row,J,F,K,G⟩:=hm.nx q.toNat (by omega)
 have g:∀x∈rowN m (red m L k),0<=x/\x<n:=by rw[d,F];exact G
 obtain⟨a1,a2⟩:=pj hm hL hl g (s:=((red m L k).1,[])) h.names
 have a2:Ext (red m L k).1 (red m L (k+1)).1:=a2
 refine⟨⟨a1,λv b=>?_,?_,a2 0 _ h.zero,?_,?_,?_⟩,a2⟩
 · -- a new name is a kind
   have E:∀(row:List Int) (s:List Int×List Int),(∀x∈row,0<=x/\x<n)->(∀v∈s.1,atL L v=v)->∀v∈(row.foldl (stepN L) s).1,atL L v=v:=λrow=>by
    induction row with
    | nil=>intro s _ h;exact h
    | cons x row D=>
     intro s hr h
     refine D (stepN L s x) (λy hy=>hr y (List.mem_cons_of_mem _ hy)) λv b=>?_
     have b:v∈addN s.1 (atL L x):=b
     unfold addN at b
     split at b
     · exact h v b
     · rw[Ad,z6]at b
       rcases b with b | rfl
       · exact h v b
       · obtain⟨M,O⟩:=hr x (List.mem_cons_self ..)
         have:=hfix x.toNat (by omega)
         rw[show((x.toNat:Nat):Int)=x from by omega]at this
         exact this
   exact E _ _ g h.rep v b
 · show(red m L k).2.1+1=_
   rw[h.at_];omega
 · show((red m L k).2.2.1++[_]).length=_
   rw[z5,h.lx];rfl
 · show((red m L k).2.2.2++[_]).length=_
   rw[z5,h.lo];rfl
 · intro N o p j v hj b
   have z:Ext ((rowN m (red m L k)).foldl (stepN L) ((red m L k).1,[])).1 N:=p
   obtain⟨i,l⟩:=sM hm hL hl o (rowN m (red m L k)) ((red m L k).1,[]) g h.names z
   by_cases c:j<k
   · have B:(red m L k).1[j]? =some v:=by
      have A:j<(red m L k).1.length:=by omega
      have e:=bJ A
      rw[e,← a2 j _ e,b]
     obtain⟨r,t,u⟩:=h.rows N o (Ext.trans a2 p) j v c B
     refine⟨?_,?_,u⟩
     · show((red m L k).2.2.1++[_])[j]? =_
       rw[List.getElem?_append_left (by rw[h.lx];exact c)];exact r
     · show((red m L k).2.2.2++[_])[j]? =_
       rw[List.getElem?_append_left (by rw[h.lo];exact c)];exact t
   · have c:j=k:=by omega
     subst c
     have C:v=q:=by
      have:=a2 j q f
      rw[b]at this
      exact Option.some.inj this
     subst C
     rw[d]at i l
     refine⟨?_,?_,l⟩
     · show((red m L j).2.2.1++[((rowN m (red m L j)).foldl (stepN L) ((red m L j).1,[])).2])[j]? =_
       rw[List.getElem?_append_right (by rw[h.lx];exact Nat.le_refl _),h.lx,Nat.sub_self,d,i]
       simp
     · show((red m L j).2.2.2++[_])[j]? =_
       rw[List.getElem?_append_right (by rw[h.lo];exact Nat.le_refl _),h.lo,Nat.sub_self,w]
       rfl
theorem yi:∃T:Nat,(∀k,k<=T->RI n m L k)/\(∀k,k<T->k<(red m L k).1.length)/\(red m L T).1.length=T/\∀k,k<=T->Ext (red m L k).1 (red m L T).1:=by
 have p:∀(d k:Nat),n+1-k<=d->RI n m L k->k<=(red m L k).1.length->∃T:Nat,k<=T/\(∀j,k<=j->j<=T->RI n m L j)/\(∀j,k<=j->j<T->j<(red m L j).1.length)/\(red m L T).1.length=T/\∀j,k<=j->j<=T->Ext (red m L j).1 (red m L T).1:=by
  intro d
  induction d with
  | zero=>intro k hd h hk;have:=h.names.len;omega
  | succ d r=>
   intro k hd h hk
   by_cases f:k<(red m L k).1.length
   · obtain⟨s,o⟩:=yl hm hL hl hfix h f
     have q:k+1<=(red m L (k+1)).1.length:=by
      have e:=bJ f
      have:=(bK.1 (o k _ e)).1
      omega
     obtain⟨T,t,g,i,l,c⟩:=r (k+1) (by omega) s q
     refine⟨T,by omega,λj b a=>?_,λj b a=>?_,l,λj b a=>?_⟩
     · by_cases e:j=k
       · rw[e];exact h
       · exact g j (by omega) a
     · by_cases e:j=k
       · rw[e];exact f
       · exact i j (by omega) a
     · by_cases e:j=k
       · rw[e];exact Ext.trans o (c (k+1) (Nat.le_refl _) t)
       · exact c j (by omega) a
   · refine⟨k,Nat.le_refl _,λj b a=>?_,λj b a=>by omega,by omega,λj b a=>?_⟩
     · rw[show j=k from by omega];exact h
     · rw[show j=k from by omega];exact λ_ _ h=>h
 obtain⟨T,_,g,i,l,c⟩:=p (n+1) 0 (by omega) (ri0 hm hL hl) (Nat.zero_le _)
 exact⟨T,λk hk=>g k (Nat.zero_le _) hk,λk hk=>i k (Nat.zero_le _) hk,l,λk hk=>c k (Nat.zero_le _) hk⟩
end
end Go.Proofs.YtleekpaohfpooaaGreat
set_option linter.unusedVariables false
set_option linter.unusedSimpArgs false
namespace Go.Proofs.YtleekpaohfpooaaGreat
open Go Go.Wk Go.Proofs
structure Kinds (n:Nat) (m:Machine) (L:List Int) (N:List Int) (r:Machine):Prop where
 names:Names n N
 rep:∀v∈N,atL L v=v
 zero:N[0]? =some 0
 nx:r.Next.length=N.length
 ou:r.Out.length=N.length
 rows:∀(k:Nat) v,N[k]? =some v->r.Next[k]? =some ((m.Next.getD v.toNat []).map (λx=>cO N (atL L x)))/\r.Out[k]? =some (m.Out.getD v.toNat [])/\∀x∈m.Next.getD v.toNat [],atL L x∈N
section
variable {l:Int}{n:Nat}{m:Machine}(hm:Mok l n m){L:List Int}(hL:Low L) (hl:L.length=n) (hfix:∀q:Nat,q<n->atL L (atL L q)=atL L q)
include hm hL hl hfix
omit hfix in
theorem rB {k:Nat}(h:RI n m L k) (hk:k<(red m L k).1.length):c7 m L (red m L k)=some (.inr (.inr (red m L (k+1)))):=by
 obtain⟨D,E⟩:=hm.hn
 obtain⟨B,C⟩:=hm.hl
 have a:(red m L k).1[k]? =some ((red m L k).1[k]'hk):=bJ hk
 generalize(red m L k).1[k]'hk=q at a
 obtain⟨b,G,d,e⟩:=xf h a
 obtain⟨row,v,w,H,c⟩:=hm.nx q.toNat (by omega)
 obtain⟨out,t,u,F⟩:=hm.ou q.toNat (by omega)
 have y:=h.names.len
 have r:idx m.Next q=some row:=by rw[cz b];exact v
 have l:idx m.Out q=some out:=by rw[cz b];exact t
 have p:rowN m (red m L k)=row:=by rw[d,w]
 obtain⟨x,f⟩:=pj hm hL hl c (s:=((red m L k).1,[])) h.names
 have i:idx (red m L k).1 (red m L k).2.1=some q:=by rw[h.at_,bS];exact a
 have g:idx (row.foldl (stepN L) ((red m L k).1,[])).1 (red m L k).2.1=some q:=by rw[h.at_,bS];exact f k q a
 have j:(red m L k).2.1<((red m L k).1.length:Int):=by rw[h.at_];omega
 have z:=h.lx
 have A:=h.lo
 have o:red m L (k+1)=((row.foldl (stepN L) ((red m L k).1,[])).1,(red m L k).2.1+1,(red m L k).2.2.1++[(row.foldl (stepN L) ((red m L k).1,[])).2],(red m L k).2.2.2++[out]):=by
  show roundL m L (red m L k)=_
  unfold roundL
  rw[p,e,u]
 unfold c7
 simp only[j,decide_true,cond_true,i,r,bI,yC hm hL hl h.names c (by omega:row.length<=4),bV,g,l]
 rw[app1 (by omega) rfl,appL (by rw[List.length_nil];omega) rfl]
 simp only[bI,List.nil_append]
 rw[app1 (by omega) rfl,bI,wr' (by rw[h.at_];omega) (by rw[h.at_];omega),o]
theorem xR:∃N r,bH (bU (c7 m L) (2 ^ 64) ((([0]:List Int):(List Int)),(0:Int),(([]:List (List Int)):(List (List Int))),(([]:List (List Int)):(List (List Int))))) (λj=>
 aft (λr=>some r) (λd=>some ((⟨d.2.2.1,d.2.2.2⟩:Machine):Machine)) j)=some r/\Kinds n m L N r:=by
 obtain⟨p,q⟩:=hm.hn
 obtain⟨T,e,l,b,s⟩:=yi hm hL hl hfix
 have a:=e T (Nat.le_refl _)
 have o:=a.names.len
 have hK:Kinds n m L (red m L T).1 ⟨(red m L T).2.2.1,(red m L T).2.2.2⟩:=by
  refine⟨a.names,a.rep,a.zero,by dsimp only;rw[a.lx,b],by dsimp only;rw[a.lo,b],λk v hk=>?_⟩
  have c:=(bK.1 hk).1
  exact a.rows _ a.names.1 (λ_ _ h=>h) k v (by omega) hk
 refine⟨(red m L T).1,⟨(red m L T).2.2.1,(red m L T).2.2.2⟩,?_,hK⟩
 · have h1:=uJ (f:=c7 m L) (red m L) T (2 ^ 64-T) (λk hk=>rB hm hL hl (e k (by omega)) (l k hk))
   rw[show T+(2 ^ 64-T)=2 ^ 64 from by omega]at h1
   rw[show(([0]:List Int),(0:Int),([]:List (List Int)),([]:List (List Int)))=red m L 0 from rfl,h1]
   obtain⟨z,i⟩:∃z,2 ^ 64-T=z+1:=⟨2 ^ 64-T-1,by omega⟩
   rw[i]
   have g:c7 m L (red m L T)=some (.inr (.inl (red m L T))):=by
    unfold c7
    have c:¬(red m L T).2.1<((red m L T).1.length:Int):=by rw[a.at_,b];omega
    simp only[c,decide_false,cond_false]
   show bH (bH (c7 m L (red m L T)) _) _=_
   rw[g]
   rfl
end
theorem yQ {m:Machine}{L:List Int}{n:Nat}(hl:L.length=n) (h:cQ m L=L):∀q:Nat,q<n->atL L (atL L q)=atL L q:=λq a=>by
 obtain⟨p,e,b,hn⟩:=pi h (by omega:q<L.length)
 rw[e]
 exact(nR hn).1.trans e
def Rel (n:Nat) (L N:List Int) (i:Nat) (q:Int):Prop:=0<=q/\q<n/\N[i]? =some (atL L q)
section
variable {p:Sig}{m:Machine}(hs:sigOk p=true) (hmo:machOk p m=true){L:List Int}(hL:Low L) (hl:L.length=m.Next.length) (hf:cQ m L=L){N:List Int}{r:Machine}(hK:Kinds m.Next.length m L N r)
include hmo hL hl hf hK
omit hL in
theorem yj {i:Nat}{q:Int}(D:Rel m.Next.length L N i q){x:Int}(g:0<=x) (w:x<pw p.In):∃(l a o:List Int) (f:Nat),idx r.Next i=some l/\idx r.Out i=some o/\idx m.Out q=some o/\idx m.Next q=some a /\
 idx l x=some (f:Int)/\idx a x=some (tab m.Next q x)/\idx o x=some (tab m.Out q x)/\Rel m.Next.length L N f (tab m.Next q x)/\(l.length:Int)=pw p.In:=by
 obtain⟨c,J,E⟩:=D
 obtain⟨R,S,T,u,H⟩:=cB hmo
 obtain⟨a,d,n,K,M⟩:=jK u c J g w
 obtain⟨o,k,I,U,V⟩:=jK H c (by omega) g w
 obtain⟨b,e,Q,hn⟩:=pi hf (by omega:q.toNat<L.length)
 rw[show((q.toNat:Nat):Int)=q from by omega]at e
 obtain⟨w1,s,v⟩:=hK.rows i _ E
 rw[e,z7]at w1 s v
 simp only[near,sh,decide_eq_true_eq]at hn
 obtain⟨_,G,j⟩:=hn
 have B:m.Next.getD q.toNat []=a:=by rw[cz c]at d;rw[List.getD_eq_getElem?_getD,d];rfl
 have A:m.Out.getD q.toNat []=o:=by rw[cz c]at k;rw[List.getD_eq_getElem?_getD,k];rfl
 have hrl:(a.length:Int)=pw p.In:=by
  rw[cz c]at d
  exact(u a (bQ d)).1
 rw[B]at j
 rw[G,A]at s
 have F:(m.Next.getD b []).length=a.length:=by
  have:=congrArg List.length j
  simpa using this
 have hx:x.toNat<(m.Next.getD b []).length:=by omega
 have hy:(m.Next.getD b [])[x.toNat]? =some ((m.Next.getD b [])[x.toNat]'hx):=bJ hx
 have t:=v _ (List.getElem_mem hx)
 generalize(m.Next.getD b [])[x.toNat]'hx=y at hy t
 obtain⟨f,O,W,P⟩:=nU t
 have C:atL L y=atL L (tab m.Next q x):=by
  have:=congrArg (λz=>z[x.toNat]?) j
  simp only[List.getElem?_map,hy]at this
  rw[cz g]at n
  rw[n]at this
  simpa using this
 refine⟨_,a,o,f,by rw[bS];exact w1,by rw[bS];exact s,k,d,?_,n,I,⟨K,M,by rw[← C];exact P⟩,?_⟩
 · rw[cz g,List.getElem?_map,hy]
   simp[O]
 · rw[Ah,F];exact hrl
omit hf in
theorem rel0:Rel m.Next.length L N 0 0:=by
 obtain⟨a,_⟩:=cB hmo
 refine⟨by omega,by omega,?_⟩
 have:=hL 0 (by omega)
 simp only[Int.natCast_zero]at this
 rw[show atL L 0=0 from by omega]
 exact hK.zero
omit hL hl hf in
theorem wG:machOk p r=true:=by
 obtain⟨A,B,C,l,n⟩:=cB hmo
 have t:=hK.names.len
 have h1:1<=N.length:=by have:=(bK.1 hK.zero).1;omega
 have hn:=hK.nx
 have j:=hK.ou
 unfold machOk
 rw[hn,j]
 simp only[sh,decide_eq_true_eq,beq_self_eq_true,and_true,List.all_eq_true]
 refine⟨by omega,λx hx=>?_⟩
 obtain⟨row,i⟩:=x
 rw[List.mem_zipIdx_iff_getElem?]at hx
 have hx:r.Next[i]? =some row:=hx
 have u:=(bK.1 hx).1
 have c:N[i]? =some (N[i]'(by omega)):=bJ (by omega)
 have k:=hK.names.2 _ (List.getElem_mem (by omega:i<N.length))
 generalize N[i]'(by omega)=v at c k
 obtain⟨w1,o,q⟩:=hK.rows i v c
 rw[hx]at w1
 have w1:=Option.some.inj w1
 have d:v.toNat<m.Next.length:=by omega
 have e:v.toNat<m.Out.length:=by omega
 have a:m.Next.getD v.toNat []=m.Next[v.toNat]:=by simp[d]
 have b:m.Out.getD v.toNat []=m.Out[v.toNat]:=by simp[e]
 obtain⟨a1,a2⟩:=l _ (List.getElem_mem d)
 obtain⟨s,g⟩:=n _ (List.getElem_mem e)
 unfold rowOk
 rw[o]
 simp only[sh,beq_iff_eq,List.all_eq_true,fg]
 refine⟨⟨⟨by rw[w1,Ah,a];exact a1,by rw[w1,Ah,a,b];omega⟩,λz f=>?_⟩,by rw[b];exact g⟩
 rw[w1,List.mem_map]at f
 obtain⟨y,hy,rfl⟩:=f
 obtain⟨w,D,E,F⟩:=nU (q y hy)
 rw[hn]
 omega
end
end Go.Proofs.YtleekpaohfpooaaGreat
set_option linter.unusedVariables false
set_option linter.unusedSimpArgs false
namespace Go.Proofs.YtleekpaohfpooaaGreat
open Go Go.Wk Go.Proofs
structure LeastBy (p:Sig) (m r:Machine):Prop where
 ok:machOk p r=true
 lets:∀I:Nat->Int,(∀t,0<=I t/\I t<pw p.In)->letM p r I=letM p m I
 cls:∃f:Int->Int,∀(D:Det) (k:Nat) (v:Key),pw p.In=(k:Int)->RchW (kyW r D (pw p.In)) k v->∃u,RchW (kyW m D (pw p.In)) k u/\v=(f u.1,u.2)
theorem xK {p:Sig}(hs:sigOk p=true){m:Machine}(hm:machOk p m=true):∃r,kU p m=some r/\LeastBy p m r:=by
 have hk:=Mok.of hm
 obtain⟨W,X,Y,Z,aa⟩:=cB hm
 obtain⟨L,c1,c2,j,d,z,Q⟩:=tS hk
 obtain⟨N,r,C,f⟩:=xR hk j d (yQ d z)
 have h0:idx L 0=some 0:=by
  rw[gG (by omega) (by omega)]
  have:=j 0 (by omega)
  simp only[Int.natCast_zero]at this
  rw[show atL L 0=0 from by omega]
 have J:kU p m=some r:=by
  unfold kU
  rw[lK,io hs,hs,hm,c2]
  simp only[bI,zZ,cond_false,h0]
  exact C
 have A:∀{T:List (List Int)} {i:Nat} {x u:Int} {row:List Int},idx T (i:Int)=some row->idx row x=some u->tab T (i:Int) x=u:=λ{T i x u row} h1 h2=>by
  unfold tab
  rw[bS]at h1
  rw[cz (c8 h2).1]at h2
  rw[List.getD_eq_getElem?_getD,List.getD_eq_getElem?_getD,z7,h1,Option.getD_some,h2,Option.getD_some]
 have s:∀{i:Nat} {q x:Int},Rel m.Next.length L N i q->0<=x->x<pw p.In->tab r.Out (i:Int) x=tab m.Out q x/\∃a:Nat,tab r.Next (i:Int) x=(a:Int)/\Rel m.Next.length L N a (tab m.Next q x):=λ{i q x} b O P=>by
  obtain⟨ac,ab,o,a,c,g,R,S,E,U,F,G,_⟩:=yj hm d z f b O P
  exact⟨A g F,a,A c E,G⟩
 refine⟨r,J,wG hm f,λI hI=>?_,λq=>cO N (atL L q),λD k v V B=>?_⟩
 · have K:∀t,∃i:Nat,runM r I t=(i:Int)/\Rel m.Next.length L N i (runM m I t):=λt=>by
    induction t with
    | zero=>exact⟨0,rfl,rel0 hm j d f⟩
    | succ t y=>
     obtain⟨i,e,b⟩:=y
     obtain⟨_,a,l,n⟩:=s b (hI t).1 (hI t).2
     refine⟨a,?_,n⟩
     show tab r.Next (runM r I t) (I t)=_
     rw[e,l]
   funext t
   obtain⟨i,e,b⟩:=K t
   show tab r.Out (runM r I t) (I t) * _+_=tab m.Out (runM m I t) (I t) * _+_
   rw[e,(s b (hI t).1 (hI t).2).1]
 · have M:∃(u:Key) (i:Nat),RchW (kyW m D (pw p.In)) k u/\v.1=(i:Int)/\v.2=u.2/\Rel m.Next.length L N i u.1:=by
    induction B with
    | zero=>exact⟨(0,0),0,.zero,rfl,rfl,rel0 hm j d f⟩
    | @step v x B hx y=>
     obtain⟨u,i,w,c,g,b⟩:=y
     obtain⟨o,a,l,n⟩:=s b (Int.natCast_nonneg x) (by omega:(x:Int)<pw p.In)
     refine⟨_,a,.step w hx,?_,?_,n⟩
     · show tab r.Next v.1 (x:Int)=_
       rw[c,l]
     · show tab D.Next v.2 (tab r.Out v.1 (x:Int) * pw p.In+(x:Int))=tab D.Next u.2 (tab m.Out u.1 (x:Int) * pw p.In+(x:Int))
       rw[c,g,o]
   obtain⟨u,i,w,c,g,_,_,H⟩:=M
   refine⟨u,w,Prod.ext ?_ g⟩
   show v.1=cO N (atL L u.1)
   rw[c,ml f.names.1 H]
end Go.Proofs.YtleekpaohfpooaaGreat
set_option linter.unusedVariables false
set_option linter.unusedSimpArgs false
namespace Go.Proofs.YtleekpaohfpooaaGreat
open Go Go.Wk Go.Proofs
section
variable {l:Int}{n:Nat}{m:Machine}(hm:Mok l n m){L:List Int}(hL:Low L) (hl:L.length=n)
include hm hL hl
theorem zT {s1:List Int×Int×List (List Int)×List (List Int)}(r:Names n s1.1){q:Int}{k:Nat}(hk:s1.2.1=(k:Int)) (u:s1.1[k]? =some q) (D:0<=q) (E:q<n){row:List Int}(g:idx m.Next q=some row) (hr:∀x∈row,0<=x/\x<n) (t:row.length<=4):
 ∃z,bU (eZ m L s1) (2 ^ 64) (s1.1,[],0)=some (.inr ((row.foldl (stepN L) (s1.1,[])).1,(row.foldl (stepN L) (s1.1,[])).2,z)):=by
 obtain⟨C,v⟩:=hm.hn
 obtain⟨o,h1,h2⟩:=cC (f:=eZ m L s1) (λj (s:List Int×List Int×Int)=>s=(((row.take j).foldl (stepN L) (s1.1,[])).1,((row.take j).foldl (stepN L) (s1.1,[])).2,(j:Int))/\j<=row.length) (λ_=>False) (λs=>∃z,s=((row.foldl (stepN L) (s1.1,[])).1,(row.foldl (stepN L) (s1.1,[])).2,z)) row.length (λj s ⟨hs,hj⟩=>by
  subst hs
  obtain⟨c,l,p⟩:=lI hL hl v (row.take j) (s1.1,[]) (λx hx=>hr x (List.mem_of_mem_take hx)) r
  have d:=p k q u
  have t:=c.len
  unfold eZ
  dsimp only
  rw[hk,bS,d,bI,g,bI]
  by_cases e:(j:Int)<(row.length:Int)
  · have a:row[j]? =some (row[j]'(by omega)):=bJ (by omega)
    generalize row[j]'(by omega)=x at a
    obtain⟨i,A⟩:=hr x (bQ a)
    obtain⟨w,y⟩:=uf hL hl i A
    have et:(row.take (j+1)).foldl (stepN L) (s1.1,[])=stepN L ((row.take j).foldl (stepN L) (s1.1,[])) x:=by rw[Ae,a,List.foldl_append];rfl
    obtain⟨a1,a2⟩:=c.add w y
    generalize(row.take j).foldl (stepN L) (s1.1,[])=F at *
    simp only[e,decide_true,cond_true,bI,bS,d,g,a,gG i (by omega:x<L.length),lQ,td]
    have B:F.2.length<=4:=by rw[l,List.length_take];simp;omega
    by_cases b:atL L x∈F.1
    · simp only[b,decide_true,zZ,cond_false,bI]
      rw[app1 (by omega) rfl]
      refine⟨_,rfl,by omega,?_,by omega⟩
      rw[et,wr' (by omega) (by omega)]
      simp[stepN,addN,b]
    · simp only[b,decide_false,Bool.not_false,cond_true]
      rw[app1 (by omega) rfl,bI,bI,app1 (by omega) rfl]
      refine⟨_,rfl,by omega,?_,by omega⟩
      rw[et,wr' (by omega) (by omega)]
      simp[stepN,addN,b]
  · simp only[e,decide_false,cond_false]
    have:row.take j=row:=List.take_of_length_le (by omega)
    exact⟨_,rfl,_,by rw[this]⟩) (2 ^ 64) 0 (s1.1,[],0) (by omega) ⟨rfl,by omega⟩ (by omega)
 match o,h2 with
 | .inr s,⟨z,h2⟩=>exact⟨z,by rw[h1,h2]⟩
def Made (t:List (List Int)) (k:Int):Prop:=(t.length:Int)=k/\∀r∈t,r.length<=4
theorem ud:∃r:Machine,bH (bU (eY m L) (2 ^ 64) ((([0]:List Int):(List Int)),(0:Int),(([]:List (List Int)):(List (List Int))),(([]:List (List Int)):(List (List Int))))) (λu=>
 aft (λr=>some r) (λd=>
  some ((⟨d.2.2.1,d.2.2.2⟩:Machine):Machine)) u)=some r /\
  bH (bU (c7 m L) (2 ^ 64) ((([0]:List Int):(List Int)),(0:Int),(([]:List (List Int)):(List (List Int))),(([]:List (List Int)):(List (List Int))))) (λu=>
  aft (λr=>some r) (λd=>
   some ((⟨d.2.2.1,d.2.2.2⟩:Machine):Machine)) u)=some r/\r.Next.length<=48/\r.Out.length<=48/\(∀x∈r.Next,x.length<=4)/\(∀x∈r.Out,x.length<=4):=by
 obtain⟨X,O⟩:=hm.hn
 obtain⟨V,W⟩:=hm.hl
 obtain⟨o,p,h1,h2,j⟩:=mX (f:=eY m L) (g:=c7 m L) (λs t=>s=t/\Names n s.1/\0<=s.2.1/\s.2.1<=s.1.length/\Made s.2.2.1 s.2.1/\Made s.2.2.2 s.2.1) (λs=>50-s.2.1.toNat) (λ_ _=>False) (λs t=>s=t/\s.2.2.1.length<=48/\s.2.2.2.length<=48/\(∀x∈s.2.2.1,x.length<=4)/\(∀x∈s.2.2.2,x.length<=4)) (λs t ⟨K,a,N,k1,b,c⟩=>by
  subst K
  have U:=a.len
  unfold eY c7
  by_cases y:s.2.1<(s.1.length:Int)
  · obtain⟨k,hk⟩:=cY N
    have e:s.1[k]? =some (s.1[k]'(by omega)):=bJ (by omega)
    have A:=a.2 _ (List.getElem_mem (show k<s.1.length by omega))
    generalize s.1[k]'(by omega)=q at e A
    obtain⟨l,P⟩:=A
    obtain⟨row,a1,a2,Q,i⟩:=hm.nx q.toNat (by omega)
    obtain⟨out,C,R,S⟩:=hm.ou q.toNat (by omega)
    have B:idx m.Next q=some row:=by rw[cz l];exact a1
    have I:idx m.Out q=some out:=by rw[cz l];exact C
    obtain⟨z,M⟩:=zT hm hL hl a hk e l P B i (by omega)
    obtain⟨v,D,E⟩:=lI hL hl O row (s.1,[]) i a
    have w:=E k q e
    have G:idx (row.foldl (stepN L) (s.1,[])).1 s.2.1=some q:=by rw[hk,bS];exact w
    have H:idx s.1 s.2.1=some q:=by rw[hk,bS];exact e
    simp only[y,decide_true,cond_true,M,H,B,bI,bV,yC hm hL hl a i (by omega:row.length<=4),G,I,dA]
    have J:(row.foldl (stepN L) (s.1,[])).2.length<=4:=by rw[D];simp;omega
    have c1:s.2.2.1.length<=48:=by have:=b.1;omega
    have c2:s.2.2.2.length<=48:=by have:=c.1;omega
    rw[app1 (by omega) rfl,appL (by rw[List.length_nil];omega) rfl]
    simp only[bI,List.nil_append]
    rw[app1 (by omega) rfl,wr' (by omega) (by omega)]
    refine⟨_,_,rfl,rfl,⟨rfl,v,(show 0<=s.2.1+1 by omega),?_,⟨?_,?_⟩,⟨?_,?_⟩⟩,?_⟩
    · have:=v.len
      have T:=(bK.1 w).1
      show s.2.1+1<=(((row.foldl (stepN L) (s.1,[])).1.length:Nat):Int)
      omega
    · show((s.2.2.1++[_]).length:Int)=_;rw[z5];have:=b.1;simp;omega
    · intro r hr
      dsimp only at hr
      rw[Ad,z6]at hr
      rcases hr with hr | rfl
      · exact b.2 r hr
      · exact J
    · show((s.2.2.2++[_]).length:Int)=_;rw[z5];have:=c.1;simp;omega
    · intro r hr
      dsimp only at hr
      rw[Ad,z6]at hr
      rcases hr with hr | rfl
      · exact c.2 r hr
      · omega
    · show 50-(s.2.1+1).toNat<50-s.2.1.toNat
      omega
  · simp only[y,decide_false,cond_false]
    have:=b.1
    have:=c.1
    exact⟨_,_,rfl,rfl,rfl,by dsimp only;omega,by dsimp only;omega,b.2,c.2⟩) (2 ^ 64) (2 ^ 64) ([0],0,[],[]) ([0],0,[],[]) (by simp) (by simp) ⟨rfl,⟨by simp,by simp;omega⟩,by simp,by simp,⟨rfl,by simp⟩,⟨rfl,by simp⟩⟩
 match o,p,j with
 | .inr s,.inr t,⟨j,F⟩=>
  subst j
  rw[h1,h2]
  exact⟨_,rfl,rfl,F⟩
end
theorem rh (p:Sig) (m:Machine):∃r,ia p m=some r/\kU p m=some r/\r.Next.length<=48/\r.Out.length<=48/\(∀x∈r.Next,x.length<=4)/\(∀x∈r.Out,x.length<=4):=by
 unfold ia kU
 rw[mr,lK,bI,bI]
 cases hs:sigOk p with
 | false=>exact⟨_,rfl,rfl,by simp,by simp,by simp,by simp⟩
 | true=>
  rw[io hs]
  cases hm:machOk p m with
  | false=>exact⟨_,rfl,rfl,by simp,by simp,by simp,by simp⟩
  | true=>
   have hk:=Mok.of hm
   obtain⟨e,f⟩:=hk.hn
   obtain⟨L,h1,h2,a,b⟩:=tT hk
   have h0:idx L 0=some 0:=by
    rw[gG (by omega) (by omega)]
    have:=a 0 (by omega)
    simp only[Int.natCast_zero]at this
    rw[show atL L 0=0 from by omega]
   unfold je
   rw[h1,h2]
   simp only[Bool.and_self,zZ,cond_false,bI,h0]
   obtain⟨r,k1,c,d⟩:=ud hk a b
   rw[k1,c]
   exact⟨r,rfl,rfl,d⟩
end Go.Proofs.YtleekpaohfpooaaGreat
set_option linter.unusedVariables false
set_option linter.unusedSimpArgs false
namespace Go.Proofs.YtleekpaohfpooaaGreat
open Go Go.Wk Go.Proofs
def allB (f:Nat->Bool):Nat->Bool
 | 0=>true
 | n+1=>allB f n&&f n
theorem oQ {f:Nat->Bool}:∀{n:Nat},allB f n=true->∀k,k<n->f k=true
 | 0,_,k,h=>by omega
 | n+1,h,k,hk=>by
  unfold allB at h
  rw[sh]at h
  by_cases e:k=n
  · rw[e];exact h.2
  · exact oQ h.1 k (by omega)
theorem yS {cs:List Clause}{p:Int}(h:1<=p):ch cs p 1=bH (cntM (dj cs 1) 4 0 ()) λq=>aft (λr=>some (.inl r)) (λ_=>some (.inr (.inr 2))) q:=by
 unfold ch
 rw[decide_eq_true h,cond_true];rfl
theorem yT {cs:List Clause}{p:Int}(h:2<=p):ch cs p 2=bH (cntM (dj cs 2) 256 0 ()) λq=>aft (λr=>some (.inl r)) (λ_=>some (.inr (.inr 3))) q:=by
 unfold ch
 rw[decide_eq_true h,cond_true];rfl
theorem wz {cs:List Clause}{p s:Int}(h:p<s):ch cs p s=some (.inr (.inl s)):=by
 unfold ch
 rw[decide_eq_false (by omega),cond_false]
def bt (k i:Nat):Int:=((k / 2 ^ i % 2:Nat):Int)
theorem wm (k i:Nat):0<=bt k i/\bt k i<2:=by
 have:=Nat.mod_lt (k / 2 ^ i) (show 0<2 by omega)
 unfold bt
 omega
def mk1 (k:Nat):Machine:=⟨[[0,0]],[[bt k 1,bt k 0]]⟩
def mk2 (k:Nat):Machine:=⟨[[bt k 7,bt k 6],[bt k 3,bt k 2]],[[bt k 5,bt k 4],[bt k 1,bt k 0]]⟩
def chkN (n:Int) (f:Nat->Machine) (k:Nat):Bool:=match gY (k:Int) n with
 | some a=>(a.Next==(f k).Next)&&(a.Out==(f k).Out)
 | _=>false
theorem zI:allB (chkN 1 mk1) 4=true:=by decide +kernel
theorem zJ:allB (chkN 2 mk2) 256=true:=by decide +kernel
theorem uL {n:Int}{f:Nat->Machine}{k:Nat}(h:chkN n f k=true):gY (k:Int) n=some (f k):=by
 unfold chkN at h
 split at h
 · rename_i a ha
   simp only[sh,beq_iff_eq]at h
   rw[ha]
   obtain⟨a1,a2⟩:=a
   generalize f k=b at h
   obtain⟨c,d⟩:=b
   dsimp only at h
   rw[h.1,h.2]
 · cases h
theorem ug (k:Nat):machOk ⟨1,1⟩ (mk1 k)=true:=oo (Nat.le_refl 1) (by show 1<=48;omega) rfl (λrow hr=>by
 rw[z6.1 hr]
 exact⟨rfl,λx hx=>by simp at hx;subst hx;exact⟨Int.le_refl 0,by show(0:Int)<1;omega⟩⟩) (λrow hr=>by
 rw[z6.1 hr]
 refine⟨rfl,λx hx=>?_⟩
 have h1:=wm k 1
 have h0:=wm k 0
 rcases List.mem_cons.1 hx with e | e
 · rw[e];exact h1
 · rw[z6.1 e];exact h0)
theorem uh (k:Nat):machOk ⟨1,1⟩ (mk2 k)=true:=by
 have a:∀{i j b c:Nat},∀row∈[[bt k i,bt k j],[bt k b,bt k c]],RowIn 2 2 row:=λrow hr=>by
  have hb:=wm k
  rcases List.mem_cons.1 hr with e | hr
  · rw[e]
    exact⟨rfl,λx hx=>by
     rcases List.mem_cons.1 hx with e | e
     · rw[e];exact hb _
     · rw[z6.1 e];exact hb _⟩
  · rw[z6.1 hr]
    exact⟨rfl,λx hx=>by
     rcases List.mem_cons.1 hx with e | e
     · rw[e];exact hb _
     · rw[z6.1 e];exact hb _⟩
 exact oo (by show 1<=2;omega) (by show 2<=48;omega) rfl a a
theorem jk {a:Int}(h:0<=a/\a<2):∃x:Nat,a=(x:Int)/\x<2:=⟨a.toNat,by omega,by omega⟩
theorem mO {n:Int}{row:List Int}(h:RowIn n 2 row):∃a b,row=[a,b]/\(0<=a/\a<n)/\0<=b/\b<n:=by
 obtain⟨h1,h2⟩:=h
 match row,h1,h2 with
 | [a,b],_,h2=>exact⟨a,b,rfl,h2 a (by simp),h2 b (by simp)⟩
 | [],h1,_=>simp at h1
 | [_],h1,_=>simp at h1
 | _::_::_::_,h1,_=>simp at h1;omega
theorem va {r:Machine}(h:machOk ⟨1,1⟩ r=true) (h1:r.Next.length=1):∃k,k<4/\r=mk1 k:=by
 obtain⟨_,_,e,f,g⟩:=cB h
 obtain⟨N,O⟩:=r
 dsimp only at h1 e f g
 match N,O,h1,e with
 | [x],[y],_,_=>
  obtain⟨a,b,rfl,ha,hb⟩:=mO (f x (by simp))
  obtain⟨c,d,rfl,hc,hd⟩:=mO (g y (by simp))
  obtain⟨c,rfl,hc⟩:=jk hc
  obtain⟨d,rfl,hd⟩:=jk hd
  refine⟨2 * c+d,by omega,?_⟩
  have i:a=0:=by simp at ha;omega
  have j:b=0:=by simp at hb;omega
  unfold mk1 bt
  rw[i,j,show(2 * c+d) / 2 ^ 1 % 2=c by omega,show(2 * c+d) / 2 ^ 0 % 2=d by omega]
theorem xW {r:Machine}(h:machOk ⟨1,1⟩ r=true) (h2:r.Next.length=2):∃k,k<256/\r=mk2 k:=by
 obtain⟨_,_,m,f,l⟩:=cB h
 obtain⟨N,O⟩:=r
 dsimp only at h2 m f l
 rw[h2]at f
 match N,O,h2,m with
 | [x,x'],[y,y'],_,_=>
  obtain⟨a,b,rfl,ha,hb⟩:=mO (f x (by simp))
  obtain⟨c,d,rfl,hc,hd⟩:=mO (f x' (by simp))
  obtain⟨e,j,rfl,n,hf⟩:=mO (l y (by simp))
  obtain⟨g,i,rfl,o,p⟩:=mO (l y' (by simp))
  obtain⟨a,rfl,ha⟩:=jk ha
  obtain⟨b,rfl,hb⟩:=jk hb
  obtain⟨c,rfl,hc⟩:=jk hc
  obtain⟨d,rfl,hd⟩:=jk hd
  obtain⟨e,rfl,n⟩:=jk n
  obtain⟨j,rfl,hf⟩:=jk hf
  obtain⟨g,rfl,o⟩:=jk o
  obtain⟨i,rfl,p⟩:=jk p
  obtain⟨k,hk⟩:∃k,k=128 * a+64 * b+32 * e+16 * j+8 * c+4 * d+2 * g+i:=⟨_,rfl⟩
  refine⟨k,by omega,?_⟩
  unfold mk2 bt
  rw[show k / 2 ^ 7 % 2=a by omega,show k / 2 ^ 6 % 2=b by omega,show k / 2 ^ 5 % 2=e by omega,show k / 2 ^ 4 % 2=j by omega,show k / 2 ^ 3 % 2=c by omega,show k / 2 ^ 2 % 2=d by omega,show k / 2 ^ 1 % 2=g by omega,show k / 2 ^ 0 % 2=i by omega]
def nxO (z:Int):(Machine×Bool)⊕Unit->(Machine×Bool)⊕(Int⊕Int)
 | .inl r=> .inl r
 | .inr _=> .inr (.inr z)
def KB (cs:List Clause) (m:Machine):Prop:=∀I:Nat->Int,(∀t,0<=I t/\I t<pw (⟨1,1⟩:Sig).In)->∀c∈cs,Sat c (letM ⟨1,1⟩ m I)
section
variable {cs:List Clause}(hb:∀c∈cs,Clause.bd c) (hc:∀c∈cs,cH ⟨1,1⟩ c=true) (h2:cs.length<=2)
include hb hc h2
theorem nq {m:Machine}(hm:machOk ⟨1,1⟩ m=true) (g:m.Next.length<=16):∃b,kg ⟨1,1⟩ m cs=some b/\jY ⟨1,1⟩ m cs=some b/\(b=true↔KB cs m):=by
 obtain⟨n,k,D,K,w,a,k1,o,f⟩:=xA (by decide) hb hc h2 hm λn k D j _ _=>vA h2 g j
 refine⟨((brkN w.next w.pairs w.pairs.length).length:Int)==0,?_,?_,?_⟩
 · unfold kg
   rw[k1,bI,cond_true,tN ⟨1,1⟩ m a k1];rfl
 · unfold jY
   rw[o]
   simp only[bI,cond_true,Option.getD_some,Option.isSome_some,guardS,if_true]
   rw[vC a.gn a.ps.2.2 a.ps.2.1 rfl rfl];rfl
 · constructor
   · intro e I hI c l
     apply Classical.byContradiction
     intro hn
     obtain⟨i,d⟩:=List.getElem?_of_mem l
     have:=(f (i:Int)).2 ⟨i,c,rfl,d,I,hI,hn⟩
     have:=List.length_pos_of_mem this
     rw[beq_iff_eq]at e
     omega
   · intro h
     rw[beq_iff_eq]
     cases hL:brkN w.next w.pairs w.pairs.length with
     | nil=>rfl
     | cons z L=>
      obtain⟨i,c,_,d,I,hI,hn⟩:=(f z).1 (by rw[hL];simp)
      exact absurd (h I hI c (bQ d)) hn
theorem qJ {n:Int}{N:Nat}{f:Nat->Machine}(hf:∀k,k<N->gY (k:Int) n=some (f k)) (i:∀k,machOk ⟨1,1⟩ (f k)=true) (g:∀k,(f k).Next.length<=16):∃o,cntM (dj cs n) N 0 ()=some o/\(match o with
 | .inl r=>∃k,k<N/\r=(f k,true)/\KB cs (f k)
 | .inr _=>∀k,k<N->¬KB cs (f k)):=by
 obtain⟨o,w1,a⟩:=ws (f:=dj cs n) (λj (_:Unit)=>∀k,k<j->¬KB cs (f k)) (λr=>∃k,k<N/\r=(f k,true)/\KB cs (f k)) (λ_=>False) N (s:=()) (λk hk=>absurd hk (Nat.not_lt_zero k)) (λj s hj hI=>by
  obtain⟨b,_,d,c⟩:=nq hb hc h2 (i j) (g j)
  unfold dj
  rw[hf j hj,bI,d,bI]
  cases b with
  | true=>exact⟨_,rfl,j,hj,rfl,c.1 rfl⟩
  | false=>
   refine⟨_,rfl,λk hk hB=>?_⟩
   by_cases e:k=j
   · subst e
     have:=c.2 hB
     cases this
   · exact hI k (by omega) hB)
 refine⟨o,w1,?_⟩
 match o,a with
 | .inl r,a=>exact a
 | .inr s,.inl a=>exact a
theorem sT:(∃k,k<4/\KB cs (mk1 k)/\dE cs 1=some (mk1 k,true)/\dE cs 2=some (mk1 k,true))\/((∀k,k<4->¬KB cs (mk1 k))/\dE cs 1=some (⟨[],[]⟩,false) /\
 ((∃k,k<256/\KB cs (mk2 k)/\dE cs 2=some (mk2 k,true))\/((∀k,k<256->¬KB cs (mk2 k))/\dE cs 2=some (⟨[],[]⟩,false)))):=by
 have hs:sigOk ⟨1,1⟩=true:=by decide
 have o:eI ⟨1,1⟩ cs=some true:=by
  rw[lZ hs hb,decide_eq_true (by omega),List.all_eq_true.2 hc];rfl
 obtain⟨f,a1,a2⟩:=qJ hb hc h2 (λk hk=>uL (oQ zI k hk)) ug (λk=>by show 1<=16;omega)
 obtain⟨b,m,c⟩:=qJ hb hc h2 (λk hk=>uL (oQ zJ k hk)) uh (λk=>by show 2<=16;omega)
 have i:3<=(2:Nat) ^ 64:=by omega
 have g:∀p:Int,1<=p->ch cs p 1=some (nxO 2 f):=λp hp=>by
  rw[yS hp,a1]
  cases f <;> rfl
 have n:ch cs 2 2=some (nxO 3 b):=by
  rw[yT (Int.le_refl 2),m]
  cases b <;> rfl
 unfold dE
 rw[o]
 simp only[bI,zZ,cond_false]
 revert i
 generalize(2:Nat) ^ 64=N
 intro i
 obtain⟨N,rfl⟩:∃M,N=M+3:=⟨N-3,by omega⟩
 have w:∀p:Int,bU (ch cs p) (N+3) 1=bH (ch cs p 1) (lpK (bU (ch cs p) (N+2))):=λp=>rfl
 have l:∀p:Int,bU (ch cs p) (N+2) 2=bH (ch cs p 2) (lpK (bU (ch cs p) (N+1))):=λp=>rfl
 have s:∀p:Int,bU (ch cs p) (N+1) 3=bH (ch cs p 3) (lpK (bU (ch cs p) N)):=λp=>rfl
 rw[w,w,g 1 (Int.le_refl 1),g 2 (by omega)]
 match f,a2 with
 | .inl r,⟨k,k1,d,e⟩=>
  subst d
  exact .inl ⟨k,k1,e,rfl,rfl⟩
 | .inr _,a2=>
  right
  refine⟨a2,?_,?_⟩
  · have q:(bH (bU (ch cs 1) (N+2) 2) λa=>aft (λr=>some r) (λj=>some ((⟨[],[]⟩:Machine),false)) a)=some ((⟨[],[]⟩:Machine),false):=by
     rw[l,wz (show(1:Int)<2 by omega)];rfl
    exact q
  · have q:(bH (bU (ch cs 2) (N+2) 2) λa=>aft (λr=>some r) (λj=>some ((⟨[],[]⟩:Machine),false)) a)=(bH (bH (some (nxO 3 b)) (lpK (bU (ch cs 2) (N+1)))) λa=>aft (λr=>some r) (λj=>some ((⟨[],[]⟩:Machine),false)) a):=by
     rw[l,n]
    match b,c with
    | .inl r,⟨k,k1,d,e⟩=>
     subst d
     exact .inl ⟨k,k1,e,q⟩
    | .inr _,c=>
     refine .inr ⟨c,q.trans ?_⟩
     show bH (bU (ch cs 2) (N+1) 3) _=_
     rw[s,wz (show(2:Int)<3 by omega)];rfl
end
end Go.Proofs.YtleekpaohfpooaaGreat
set_option linter.unusedVariables false
set_option linter.unusedSimpArgs false
namespace Go.Proofs.YtleekpaohfpooaaGreat
open Go Go.Wk Go.Proofs
theorem zW {z:Int}(h0:0<=z) (h1:z<18446744073709551616):IntKind.u64.wrap z=z:=by
 simp[IntKind.wrap,IntKind.bits,IntKind.signed]
 omega
theorem nF {d:dice}(hb:∀x∈d.b,U8 x) (hl:d.b.length<=4096) (e:0<=d.i) (f:d.i<=4096){k:Int}(hk:1<=k):∃x i h,dT d k=some (x,i,h)/\0<=x/\x<k/\0<=i/\i<=4096:=by
 unfold dT
 have b:nz k=some ():=by unfold nz;rw[if_neg (by omega)]
 generalize hA:(BitVec.ofInt (IntKind.bits IntKind.u64) (Int.fdiv (IntKind.u64.wrap (IntKind.u64.wrap (d.h * 6364136223846793005)+1442695040888963407)) (2 ^ (min (Int.toNat 33) (IntKind.bits IntKind.u64)))))=A
 have hy:(BitVec.toNat (A &&& BitVec.ofInt (IntKind.bits IntKind.u64) 16777215))<=16777215:=by
  rw[BitVec.toNat_and]
  refine Nat.le_trans Nat.and_le_right ?_
  decide
 generalize(BitVec.toNat (A &&& BitVec.ofInt (IntKind.bits IntKind.u64) 16777215))=y at hy
 rw[zW (by omega) (by omega),wr' (z:=(y:Int)) (by omega) (by omega)]
 by_cases a:d.i<(d.b.length:Int)
 · obtain⟨x,hx,hm⟩:=gK (xs:=d.b) e a
   have c:=hb x hm
   unfold U8 at c
   simp only[a,decide_true,cond_true,hx,bI,b]
   rw[wr' (z:=x) (by omega) (by omega),wr' (z:=(y:Int)+x) (by omega) (by omega),wr' (by omega) (by omega),Int.tmod_eq_emod_of_nonneg (by omega)]
   exact⟨_,_,_,rfl,Int.emod_nonneg _ (by omega),Int.emod_lt_of_pos _ (by omega),by omega,by omega⟩
 · simp only[a,decide_false,cond_false,bI,b]
   rw[Int.tmod_eq_emod_of_nonneg (by omega)]
   exact⟨_,_,_,rfl,Int.emod_nonneg _ (by omega),Int.emod_lt_of_pos _ (by omega),by omega,by omega⟩
theorem yp (b:List Int) (k:Int):∃h,pC b k=some ⟨b,0,h⟩:=by
 unfold pC
 obtain⟨s,h1,_⟩:=cv (f:=kW b) (λ_ _=>True) b.length (s:=(IntKind.u64.wrap ((IntKind.u64.wrap (k * 7919))+(IntKind.u64.wrap (b.length:Int))))) trivial (λj s hj _=>by
  have hx:b[j]? =some b[j]:=by simp[hj]
  unfold kW
  rw[bS,hx]
  exact⟨_,rfl,trivial⟩)
 rw[h1]
 exact⟨s,rfl⟩
end Go.Proofs.YtleekpaohfpooaaGreat
set_option linter.unusedVariables false
set_option linter.unusedSimpArgs false
namespace Go.Proofs.YtleekpaohfpooaaGreat
open Go Go.Wk Go.Proofs
section
variable {b:List Int}(hb:∀x∈b,U8 x) (hl:b.length<=4096)
include hb hl
end
end Go.Proofs.YtleekpaohfpooaaGreat
set_option linter.unusedVariables false
set_option linter.unusedSimpArgs false
namespace Go.Proofs.YtleekpaohfpooaaGreat
open Go Go.Wk Go.Proofs
theorem St.up {q:Nat}{A:List Int}(h:St q A):St (q+1) A:=⟨h.asc,λx hx=>by have:=h.rng x hx;omega⟩
theorem St.push {q:Nat}{A:List Int}(h:St q A):St (q+1) (A++[(q:Int)]):=⟨List.pairwise_append.2 ⟨h.asc,by simp,λa ha b hb=>by
 rw[z6]at hb
 have:=h.rng a ha
 omega⟩,λx hx=>by
 rcases Ad.1 hx with hx | hx
 · have:=h.rng x hx;omega
 · rw[z6.1 hx];omega⟩
section
variable {b:List Int}(hb:∀x∈b,U8 x) (hl:b.length<=4096)
include hb hl
theorem sF {i h:Int}(ai:0<=i) (aj:i<=4096):∃cs l z,jq ⟨b,i,h⟩ 2=some (cs,l,z)/\(∀c∈cs,c.A.length<=4/\c.B.length<=4/\cH ⟨1,1⟩ c=true)/\cs.length<=2/\0<=l/\l<=4096:=by
 obtain⟨x,ak,h2,a1,a2,aw,L,M⟩:=nF (d:=⟨b,i,h⟩) hb hl ai aj (k:=3) (by omega)
 obtain⟨o,w1,g⟩:=cC (f:=fq ⟨b,i,h⟩) (λj (s:List Clause×Int×Int×Int)=>s.2.1=x-(j:Int)/\(j:Int)<=x/\0<=s.2.2.1/\s.2.2.1<=4096/\s.1.length=j/\∀c∈s.1,c.A.length<=4/\c.B.length<=4/\cH ⟨1,1⟩ c=true) (λ_=>False) (λs=>(∀c∈s.1,c.A.length<=4/\c.B.length<=4/\cH ⟨1,1⟩ c=true)/\s.1.length<=2/\0<=s.2.2.1/\s.2.2.1<=4096) 3 (λj s ⟨N,ax,p,r,C,w⟩=>by
  obtain⟨cs,k,l,z⟩:=s
  dsimp only at N p r C w
  unfold fq
  dsimp only
  by_cases J:0<k
  · obtain⟨y,K,I,c1,c2,ay,O,P⟩:=nF (d:=⟨b,l,z⟩) hb hl p r (k:=7) (by omega)
    obtain⟨t,Q,R,S,D,E,T⟩:=cv (f:=ft ⟨b,i,h⟩ (y,K,I)) (λq (t:Int×Int×List Int×List Int)=>0<=t.1/\t.1<=4096/\St q t.2.2.1/\St q t.2.2.2/\(t.2.2.2=[]\/1+y=2\/1+y=3\/1+y=7)) 4 (s:=(K,I,[],[])) ⟨O,P,⟨List.Pairwise.nil,by simp⟩,⟨List.Pairwise.nil,by simp⟩,.inl rfl⟩ (λq t aF ⟨F,G,n,a,H⟩=>by
     obtain⟨ar,aq,A,B⟩:=t
     dsimp only at F G n a H
     have hle:=n.len
     have aE:=a.len
     have hy:IntKind.i64.wrap (1+y)=1+y:=wr' (by omega) (by omega)
     obtain⟨u,al,aa,U,az,aA,V,W⟩:=nF (d:=⟨b,ar,aq⟩) hb hl F G (k:=2) (by omega)
     obtain⟨v,aG,aD,X,aB,aC,Y,Z⟩:=nF (d:=⟨b,al,aa⟩) hb hl V W (k:=2) (by omega)
     unfold ft
     dsimp only
     rw[U,bI]
     obtain⟨A',ab,ac⟩:∃A',(bif (u==0) then bH (appS 8 A [(q:Int)]) λau=>some au else some A)=some A'/\St (q+1) A':=by
      cases u==0 with
      | true=>exact⟨A++[(q:Int)],by rw[cond_true,app1 (by omega) rfl];rfl,n.push⟩
      | false=>exact⟨A,rfl,n.up⟩
     rw[ab,bI,X,bI]
     have af:∃m,(bif (v==0) then bH (bif (IntKind.i64.wrap (1+y)==2) then some true else some (IntKind.i64.wrap (1+y)==3)) λao=>bH (bif ao then some true else some (IntKind.i64.wrap (1+y)==7)) λap=>some ap else some false)=some m/\(m=true->1+y=2\/1+y=3\/1+y=7):=by
      rw[hy]
      cases v==0 with
      | false=>exact⟨_,rfl,λe=>by cases e⟩
      | true=>
       cases am:(1+y==2) with
       | true=>exact⟨_,rfl,λ_=> .inl (by simpa using am)⟩
       | false=>
        cases an:(1+y==3) with
        | true=>exact⟨_,rfl,λ_=> .inr (.inl (by simpa using an))⟩
        | false=>exact⟨_,rfl,λe=> .inr (.inr (by simpa using e))⟩
     obtain⟨m,hpb,ah⟩:=af
     rw[hpb,bI]
     obtain⟨B',hB,ad,ae⟩:∃B',(bif m then bH (appS 8 B [(q:Int)]) λav=>some av else some B)=some B'/\St (q+1) B'/\(B'=[]\/1+y=2\/1+y=3\/1+y=7):=by
      cases m with
      | true=>exact⟨B++[(q:Int)],by rw[cond_true,app1 (by omega) rfl];rfl,a.push,.inr (ah rfl)⟩
      | false=>exact⟨B,rfl,a.up,H⟩
     rw[hB,bI]
     exact⟨_,rfl,Y,Z,ac,ad,ae⟩)
    rw[decide_eq_true J,cond_true,c1,bI]
    have a:Int.toNat (4-0)=4:=rfl
    rw[a,Q,bI,bV,app1 (by omega) rfl,bI]
    refine⟨_,rfl,by omega,by dsimp only;rw[wr' (by omega) (by omega)];omega,by omega,R,S,by dsimp only;simp[C],λc hc=>?_⟩
    rcases Ad.1 hc with hc | hc
    · exact w c hc
    · rw[z6.1 hc]
      have hy:IntKind.i64.wrap (1+y)=1+y:=wr' (by omega) (by omega)
      have ag:ltr (⟨1,1⟩:Sig)=4:=by decide
      refine⟨D.len,E.len,?_⟩
      unfold cH
      dsimp only
      rw[hy,ag,decide_eq_true (by omega),decide_eq_true (by omega),D.ok (by omega),E.ok (by omega)]
      rcases T with e | e | e | e
      · rw[e];simp
      · rw[e];rfl
      · rw[e];rfl
      · rw[e];rfl
  · rw[decide_eq_false J,cond_false]
    exact⟨_,rfl,w,by dsimp only;omega,p,r⟩) (2 ^ 64) 0 ([],x,ak,h2) (by omega) ⟨by dsimp only;omega,by omega,L,M,rfl,by simp⟩ (by omega)
 unfold jq
 rw[wr' (by omega) (by omega),show(2:Int)+1=3 from rfl,a1,bI]
 dsimp only
 match o,g with
 | .inr s,g=>
  rw[w1,bI,bV]
  exact⟨_,_,_,rfl,g.1,g.2.1,g.2.2.1,g.2.2.2⟩
end
end Go.Proofs.YtleekpaohfpooaaGreat
set_option linter.unusedVariables false
set_option linter.unusedSimpArgs false
namespace Go.Proofs.YtleekpaohfpooaaGreat
open Go Go.Wk Go.Proofs
def chkS (k:Nat):Bool:=match gu ⟨1,1⟩ (mk1 k) (mk1 k) with
 | some b=>b
 | none=>false
theorem zK:allB chkS 4=true:=by decide +kernel
theorem xG {k:Nat}(h:chkS k=true):gu ⟨1,1⟩ (mk1 k) (mk1 k)=some true:=by
 unfold chkS at h
 split at h
 · rename_i b hb
   rw[hb,h]
 · cases h
theorem yv {p:Sig}(hs:sigOk p=true){m:Machine}(hm:machOk p m=true):∃r,ia p m=some r/\LeastBy p m r:=by
 obtain⟨r,h1,h2⟩:=xK hs hm
 obtain⟨r',b,a,_⟩:=rh p m
 rw[h1]at a
 cases a
 exact⟨r,b,h2⟩
theorem FnFewest_law {p0:List Int}(Y:okS U8 p0):lL p0=some true:=by
 unfold lL uW
 rw[bI]
 by_cases G:4096<(p0.length:Int)
 · rw[decide_eq_true G,cond_true]
 · rw[decide_eq_false G,cond_false]
   have hb:=Y.1
   have hl:p0.length<=4096:=by omega
   have hs:sigOk ⟨1,1⟩=true:=by decide
   obtain⟨h,hr⟩:=yp p0 933
   rw[hr,bI]
   obtain⟨cs,ac,h1,a1,a2,v,Z,aa⟩:=sF hb hl (i:=0) (h:=h) (by omega) (by omega)
   rw[a1,bI]
   dsimp only
   have z:∀c∈cs,Clause.bd c:=λc hc=>by
    obtain⟨x,y,_⟩:=a2 c hc
    exact⟨trivial,⟨by omega,λ_ _=>trivial⟩,⟨by omega,λ_ _=>trivial⟩⟩
   have p:∀c∈cs,cH ⟨1,1⟩ c=true:=λc hc=>(a2 c hc).2.2
   obtain⟨d,A,n,m,k,P,g,W,pk,ab,S,hM⟩:=tD hs z p v
   -- a machine that keeps all: the synthesis succeeds
   have J:∀{M:Machine},machOk ⟨1,1⟩ M=true->KB cs M->∃X,fE ⟨1,1⟩ cs=some (X,true)/\MadeBy ⟨1,1⟩ cs X:=λ{M} hm hK=>by
    rcases hM with ⟨U,_⟩ | ⟨_,X,R,hB⟩
    · exfalso
      obtain⟨N,O,Q⟩:=S.prd
      have H:=qG S.det
      rw[S.cx.dl]at H
      obtain⟨I,hI,c,hc,hn⟩:=vR S.cx U S.im S.ok hm H O Q p
      exact hn (hK I hI c hc)
    · exact⟨X,R,hB⟩
   -- the least machine of what is made
   have E:∀{X:Machine},MadeBy ⟨1,1⟩ cs X->∃r,ia ⟨1,1⟩ X=some r/\machOk ⟨1,1⟩ r=true/\KB cs r:=λ{X} hB=>by
    have F:=hB.good p
    obtain⟨r,l,hL⟩:=yv hs F.ok
    exact⟨r,l,hL.ok,λI hI c hc=>by rw[hL.lets I hI];exact F.sat I hI c hc⟩
   rcases sT z p v with ⟨k,k1,u,w,q⟩ | ⟨L,w,⟨k,k1,u,q⟩ | ⟨V,q⟩⟩
   · obtain⟨X,o,hB⟩:=J (ug k) u
     obtain⟨r,l,f,_⟩:=E hB
     obtain⟨b,C,_,D⟩:=nq z p v (ug k) (by show 1<=16;omega)
     have K:=(cB f).1
     rw[w,q,o]
     simp only[bI,cond_true,cond_false,zZ,xG (oQ zK k k1),show(((mk1 k).Next.length:Int) !=1)=false from rfl,C,D.2 u,l,decide_eq_true (show((mk1 k).Next.length:Int)<=(r.Next.length:Int) by show(1:Int)<=_;omega)]
   · obtain⟨X,o,hB⟩:=J (uh k) u
     obtain⟨r,l,f,B⟩:=E hB
     obtain⟨b,C,_,D⟩:=nq z p v (uh k) (by show 2<=16;omega)
     have K:=(cB f).1
     have T:2<=r.Next.length:=Classical.byContradiction λhn=>by
      obtain⟨j,s,t⟩:=va f (by omega)
      exact L j s (by rw[← t];exact B)
     rw[w,q,o]
     simp only[bI,cond_true,cond_false,zZ,C,D.2 u,l,decide_eq_true (show((mk2 k).Next.length:Int)<=(r.Next.length:Int) by show(2:Int)<=_;omega)]
   · rw[w,q]
     rcases hM with ⟨_,o⟩ | ⟨_,X,o,hB⟩
     · rw[o];rfl
     · obtain⟨r,l,f,B⟩:=E hB
       have K:=(cB f).1
       have T:2<r.Next.length:=Classical.byContradiction λhn=>by
        by_cases e:r.Next.length=1
        · obtain⟨j,s,t⟩:=va f e
          exact L j s (by rw[← t];exact B)
        · obtain⟨j,s,t⟩:=xW f (by omega)
          exact V j s (by rw[← t];exact B)
       rw[o]
       simp only[bI,cond_true,cond_false,zZ,Bool.not_false,l,decide_eq_true (show(2:Int)<(r.Next.length:Int) by omega)]
end Go.Proofs.YtleekpaohfpooaaGreat
