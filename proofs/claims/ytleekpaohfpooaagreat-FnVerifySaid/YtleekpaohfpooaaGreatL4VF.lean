/- A machine that is made: few pairs of its states and the product's are met; what KeepsAll says. Plain law. -/
import Derived.Test.YtleekpaohfpooaaGreatL3VF
import Derived.Test.YtleekpaohfpooaaGreatL2VF
import Derived.Test.YtleekpaohfpooaaGreatL0VF
import Derived.Test.YtleekpaohfpooaaGreatL1VF
set_option linter.unusedVariables false
set_option linter.unusedSimpArgs false
open Option renaming bind → bD, bind_some → bG
open List renaming getElem?_eq_some_iff → bJ, mem_of_getElem? → bL, length_append → zF, mem_singleton → zG, length_take → zJ, length_nil → zK, mem_append → zN
open Bool renaming not_true → sh
open Int renaming toNat_natCast → zH
namespace Go.Proofs.YtleekpaohfpooaaGreat
open Go Go.Wk Go.Proofs
section
variable {p:Sig}{d:Det}{n m k:Nat}{A:Arena}{P:List Place}{g:Parity}{W:Int->Prop}{pk:List Int}(h:Cx d n m k A P g W pk) (h0:wB W 0=false) (hm:pw p.In=(m:Int)){j:Nat}(hj:∀i,i<j->i<(itM d n m k P g pk i).1.length) (hjl:j=(itM d n m k P g pk j).1.length)
include h h0 hm hj hjl
theorem wP {v:Key}(l:RchW (kyW ⟨(itM d n m k P g pk j).2.1,(itM d n m k P g pk j).2.2⟩ d (pw p.In)) m v):0<=v.1/\∃x,(itM d n m k P g pk j).1[v.1.toNat]? =some x/\v.2=atP P x:=by
 obtain⟨_,_,E⟩:=r7 (d:=d) (n:=n) (m:=m) (k:=k) (P:=P) (g:=g) (pk:=pk) j hj
 have c:=g8 h h0 j hj
 induction l with
 | zero=>
  refine⟨Int.le_refl 0,0,c.zero,?_⟩
  exact(eH (v:=⟨0,firstR d.Pairs.length⟩) (by show idx P ((0:Nat):Int)=_;rw[bT];exact h.rg.game.zero)).symm
 | @step v i l f G=>
  obtain⟨S,x,b,L⟩:=G
  obtain⟨T,row,N,a1,a2,w,z⟩:=E _ (by rw[hjl];exact(bJ.1 b).1)
  rw[b]at a1
  cases a1
  obtain⟨⟨u,J,K,s⟩,t⟩:=z i f
  obtain⟨F,o⟩:=c.all x (bL b)
  obtain⟨O,a,_,_⟩:=h.place (c.nm.2 x (bL b))
  rw[eH a]at o
  obtain⟨q,r,e,M,A,_,_,D⟩:=rb h a o F
  obtain⟨_,_,R,_,_,_,_,_,Q,H,_,I,_⟩:=D i f
  rw[hU A,eH a,e,zH]at s t
  have B:tab (itM d n m k P g pk j).2.1 v.1 (i:Int)=u:=by
   unfold tab
   rw[List.getD_eq_getElem?_getD,List.getD_eq_getElem?_getD,a2,Option.getD_some,zH,J,Option.getD_some]
  have C:tab (itM d n m k P g pk j).2.2 v.1 (i:Int)=oM d pk P r n m k q i:=by
   unfold tab
   rw[List.getD_eq_getElem?_getD,List.getD_eq_getElem?_getD,w,Option.getD_some,zH,t,Option.getD_some]
  show 0<=tab (itM d n m k P g pk j).2.1 v.1 (i:Int)/\∃y,(itM d n m k P g pk j).1[(tab (itM d n m k P g pk j).2.1 v.1 (i:Int)).toNat]? =some y/\tab d.Next v.2 (tab (itM d n m k P g pk j).2.2 v.1 (i:Int) * pw p.In+(i:Int))=atP P y
  rw[B,C,hm,L,eH a,e]
  exact⟨K,_,s,(tB I).2.trans H⟩
end
theorem MadeBy.few {p:Sig}{cs:List Clause}{M:Machine}(h:MadeBy p cs M){D:Det}{k:Nat}(hD:da p cs=some (D,true)) (hk:pw p.In=(k:Int)):¬ManyK M D (pw p.In) k:=by
 obtain⟨h1,S,hn,hp,h0,hj,hjl⟩:=h
 rename_i d n m k' A P g W pk j
 rw[h1]at hD
 cases hD
 have:m=k:=by have:=S.im;omega
 subst this
 rintro⟨K,k1,q,_,r⟩
 have c:=g8 S.cx h0 j hj
 have w:=qg S.cx hn hp c.nm λx hx=>(c.all x hx).2
 have hr:=λv a=>wP (p:=p) S.cx h0 S.im hj hjl (r v a)
 have i:(K.map (·.1)).Nodup:=by
  unfold List.Nodup
  rw[List.pairwise_map]
  refine List.Pairwise.imp_of_mem (λ{u v} o a l e=>l (Prod.ext e ?_)) q
  obtain⟨_,x,f,s⟩:=hr u o
  obtain⟨_,y,b,t⟩:=hr v a
  rw[e,b]at f
  cases f
  rw[s,t]
 have:=di 32 _ i λx hx=>by
  obtain⟨v,a,e⟩:=List.mem_map.1 hx
  obtain⟨z,y,b,_⟩:=hr v a
  have:=(bJ.1 b).1
  have e:v.1=x:=e
  omega
 rw[List.length_map]at this
 omega
theorem vK {p:Sig}{cs:List Clause}(e:cs.length<=2){M:Machine}(d:M.Next.length<=16){n:Nat}{D:Det}(a:PR n cs D){k:Nat}:¬ManyK M D (pw p.In) k:=by
 rintro⟨K,k1,b,c,_⟩
 have f:=a.size
 have g:=pZ b c
 have i:4 ^ cs.length<=4 ^ 2:=Nat.pow_le_pow_right (by omega) (by omega)
 have:M.Next.length * D.Next.length<=16 * 16:=Nat.mul_le_mul (by omega) (by omega)
 omega
theorem xy {p:Sig}(hs:sigOk p=true){cs:List Clause}(hb:∀c∈cs,Clause.bd c) (hc:∀c∈cs,cQ p c=true) (m:cs.length<=2){M:Machine}(hm:machOk p M=true) (l:∀n k D,PR n cs D->da p cs=some (D,true)->pw p.In=((k:Nat):Int)->¬ManyK M D (pw p.In) k):
 ∃n k D K w,AK p M cs n k D K w/\oL p M cs=some (w.next,w.pairs,true)/\gu p M cs=some (some w,true)/\∀z,z∈brkN w.next w.pairs w.pairs.length↔∃(i:Nat) (c:Clause),z=(i:Int)/\cs[i]? =some c/\∃I:Nat->Int,(∀t,0<=I t/\I t<pw p.In)/\¬Sat c (letM p M I):=by
 have j:ed p cs=true:=by
  unfold ed
  rw[decide_eq_true (by omega),List.all_eq_true.2 hc];rfl
 rcases vE p M hb with ⟨_,_,b⟩ | ⟨n,k,D,K,w,d,h1,b⟩
 · exfalso
   rcases b hs hm j with h | ⟨n,k,D,_,hk,g,h1,f⟩
   · omega
   · exact l n k D g h1 hk f
 · refine⟨n,k,D,K,w,d,h1,b,λz=>?_⟩
   rw[xD d]
   constructor
   · rintro⟨i,c,e,a,h⟩
     obtain⟨k1,k7⟩:=ko (hc c (bL a))
     exact⟨i,c,e,a,(uV hm k1 k7).1 h⟩
   · rintro⟨i,c,e,a,h⟩
     obtain⟨k1,k7⟩:=ko (hc c (bL a))
     exact⟨i,c,e,a,(uV hm k1 k7).2 h⟩
end Go.Proofs.YtleekpaohfpooaaGreat
set_option linter.unusedVariables false
set_option linter.unusedSimpArgs false
namespace Go.Proofs.YtleekpaohfpooaaGreat
open Go Go.Wk Go.Proofs
theorem pi (w:Word) (n:Int):lO w n=some (wordOk w n):=by
 unfold lO wordOk
 simp only[mK,bG,andE]
end Go.Proofs.YtleekpaohfpooaaGreat
set_option linter.unusedVariables false
set_option linter.unusedSimpArgs false
namespace Go.Proofs.YtleekpaohfpooaaGreat
open Go Go.Wk Go.Proofs
theorem sE (xs A:List Int):i8 xs A=some (xs.all λx=>decide (x∈A)):=by
 unfold i8
 rw[dt (f:=fF xs A) (r:=false) (λx=>decide (x∈A)) (xs:=xs) rfl (λi x hx=>by
  unfold fF
  rw[bT,hx,bG,em,bG]
  cases decide (x∈A) <;> rfl)]
 cases(xs.all λx=>decide (x∈A)) <;> rfl
theorem mA (xs A:List Int):er xs A=some (xs.any λx=>decide (x∈A)):=by
 unfold er
 rw[dt (f:=fH xs A) (r:=true) (λx=> !decide (x∈A)) (xs:=xs) rfl (λi x hx=>by
  unfold fH
  rw[bT,hx,bG,em,bG]
  cases decide (x∈A) <;> rfl)]
 rw[List.any_eq_not_all_not]
 cases(xs.all λx=> !decide (x∈A)) <;> rfl
theorem r6 (c:Clause) (x:Int):d7 x c=some (decide (x∈c.A)):=by
 unfold d7
 rw[cK,pv];rfl
theorem uj (c:Clause) (x:Int):eA x c=some (decide (x∈c.B)):=by
 unfold eA
 rw[cK,pv];rfl
theorem xV (c:Clause) (x:Int):cP x c=some (!decide (x∈c.A)):=by
 unfold cP
 rw[r6];rfl
theorem qZ {c a:Type}(f:Int->a->Option (c⊕(a⊕a))):∀(k:Nat) (j:Int) (s:a),cntM f k (j+1) s=cntM (λv=>f (v+1)) k j s
 | 0,_,_=>rfl
 | k+1,j,s=>by
  show bD (f (j+1) s) _=bD (f (j+1) s) _
  congr 1
  funext o
  match o with
  | .inl r=>rfl
  | .inr (.inl b)=>rfl
  | .inr (.inr b)=>exact qZ f k (j+1) b
theorem ui {p:Sig}(hs:sigOk p=true){c:Clause}(hb:Clause.bd c) (hc:cQ p c=true){w:Word}(e:wordOk w (ltr p)=true):∃v,dR p c w=some v/\kw c w=some v:=by
 obtain⟨w1,S,T,U,V⟩:=jc e
 have hl:=lI hs
 obtain⟨z,d,J⟩:=iH (xs:=w.Loop) (z:=0) (by omega) (by omega)
 have g:z∈w.Stem++w.Loop:=List.mem_append_right _ J
 have I:(w.Stem++w.Loop)[w.Stem.length]? =some z:=by
  rw[List.getElem?_append_right (Nat.le_refl _),Nat.sub_self]
  rw[cY (by omega)]at d
  exact d
 have H:fO p w=some true:=by
  unfold fO
  rw[dE,hs,dM hs]
  simp only[bG,cond_true]
  rw[kr w (by omega) (by omega),e];rfl
 have C:dw w.Stem=some w.Stem:=by
  unfold dw
  rw[appL (by rw[zK];omega) rfl];rfl
 have u:appS 8 w.Stem w.Loop=some (w.Stem++w.Loop):=appL (by omega) rfl
 have E:appS 8 ([]:List Int) w.Stem=some w.Stem:=by rw[appL (by rw[zK];omega) rfl];rfl
 have A:appS 8 (w.Stem++w.Loop) [z]=some ((w.Stem++w.Loop)++[z]):=app1 (by rw[zF];omega) rfl
 have k:∀xs:List Int,cg xs c=some (xs.any λx=>decide (x∈c.A)):=λxs=>fo _ λx _=>r6 c x
 have l:∀xs:List Int,cn xs c=some (xs.any λx=>decide (x∈c.B)):=λxs=>fp _ λx _=>uj c x
 have m:∀xs:List Int,bX xs c=some (!(xs.all λx=>decide (x∈c.A))):=λxs=>by
  rw[dO _ (λx _=>xV c x),List.all_eq_not_any_not,Bool.not_not]
 unfold dR kw
 rw[jT hs hb,hc,H]
 simp only[bG,sh,cond_false,C,u,d,E,A,k,l,m,sE,mA,vG g,vH g,Bool.not_not,orE]
 have L:(w.Stem++w.Loop).length<=1200:=by rw[zF];omega
 generalize hall:w.Stem++w.Loop=all at *
 cases k1:(c.Kind==1) with
 | true=>exact⟨_,rfl,rfl⟩
 | false=>
  cases N:(c.Kind==2) with
  | true=>
   simp only[cond_true,cond_false]
   -- both ask of each letter and the one behind it
   have M:(all++[z]).length=all.length+1:=by simp
   have j:∀(i:Nat),i<all.length->∃y,(all++[z])[i+1]? =some y:=λi a=>⟨_,List.getElem?_eq_getElem (by omega)⟩
   have n:jM c all (w.Stem.length:Int)=some (all.zipIdx.all λq=> !decide (q.1∈c.A)||decide ((all++[z]).getD (q.2+1) 0∈c.B)):=by
    unfold jM
    rw[jd (f:=fG c all (w.Stem.length:Int)) (r:=false) (λi x=> !decide (x∈c.A)||decide ((all++[z]).getD (i+1) 0∈c.B)) (xs:=all) rfl (λi x hx=>by
     have a:=(bJ.1 hx).1
     obtain⟨y,hy⟩:=j i a
     have b:(all++[z]).getD (i+1) 0=y:=by rw[List.getD_eq_getElem?_getD,hy];rfl
     have F:(bif decide (IntKind.i64.wrap ((i:Int)+1)<(all.length:Int)) then some (IntKind.i64.wrap ((i:Int)+1)) else some (w.Stem.length:Int))=some (if i+1<all.length then((i+1:Nat):Int) else(w.Stem.length:Int)):=by
      rw[wr' (by omega) (by omega)]
      by_cases h:i+1<all.length
      · have:(i:Int)+1<(all.length:Int):=by omega
        simp[h,this]
      · have:¬(i:Int)+1<(all.length:Int):=by omega
        simp[h,this]
     have B:idx all (if i+1<all.length then((i+1:Nat):Int) else(w.Stem.length:Int))=some y:=by
      by_cases h:i+1<all.length
      · rw[if_pos h,bT,← hy,List.getElem?_append_left h]
      · rw[if_neg h,bT,I,← hy,List.getElem?_append_right (by omega),show i+1-all.length=0 from by omega];rfl
     unfold fG
     rw[F,bG,bT,hx,bG,em,bG,B,b]
     simp only[bG,em]
     cases decide (x∈c.A) <;> cases decide (y∈c.B) <;> rfl)]
    simp only[bG]
    cases(all.zipIdx.all λq=> !decide (q.1∈c.A)||decide ((all++[z]).getD (q.2+1) 0∈c.B)) <;> rfl
   have o:cntM (fB c (all++[z])) (Int.toNat (((all++[z]).length:Int)-1)) 1 ()=some (if all.zipIdx.all (λq=> !decide (q.1∈c.A)||decide ((all++[z]).getD (q.2+1) 0∈c.B)) then .inr () else .inl false):=by
    rw[show Int.toNat (((all++[z]).length:Int)-1)=all.length from by omega,show(1:Int)=0+1 from rfl,qZ]
    exact jd (f:=λv=>fB c (all++[z]) (v+1)) (r:=false) (λi x=> !decide (x∈c.A)||decide ((all++[z]).getD (i+1) 0∈c.B)) (xs:=all) rfl (λi x hx=>by
     have a:=(bJ.1 hx).1
     obtain⟨y,hy⟩:=j i a
     have b:(all++[z]).getD (i+1) 0=y:=by rw[List.getD_eq_getElem?_getD,hy];rfl
     show fB c (all++[z]) ((i:Int)+1) ()=_
     unfold fB
     rw[show(i:Int)+1-1=(i:Int) from by omega,wr' (by omega) (by omega),bT,List.getElem?_append_left a,hx,bG,r6,bG,show(i:Int)+1=((i+1:Nat):Int) from by omega,bT,hy,b]
     simp only[bG,uj]
     cases decide (x∈c.A) <;> cases decide (y∈c.B) <;> rfl)
   rw[n,o]
   simp only[bG]
   cases(all.zipIdx.all λq=> !decide (q.1∈c.A)||decide ((all++[z]).getD (q.2+1) 0∈c.B)) with
   | true=>exact⟨_,rfl,rfl⟩
   | false=>exact⟨_,rfl,rfl⟩
  | false=>
   cases O:(c.Kind==3) with
   | true=>
    simp only[cond_true,cond_false]
    have t:=wz (f:=jf c all) (λ(p:Bool) x=>(p||decide (x∈c.A)) && !decide (x∈c.B)) (xs:=all) (λi x s hx=>by
     unfold jf
     rw[bT,hx,bG,r6,bG,orE,bG,uj,bG,andE,bG]) false
    rw[t,vp]
    simp only[bG,ca,Bool.false_and,Bool.false_or]
    unfold iZ
    rw[mA,bG]
    cases K:(w.Loop.any λx=>decide (x∈c.B)) with
    | true=>exact⟨true,rfl,by simp⟩
    | false=>
     simp only[cond_false,Bool.or_false]
     rw[jd (f:=eo c all) (r:=false) (λi x=> !decide (x∈c.A)||((all.drop i).any λy=>decide (y∈c.B))) (xs:=all) rfl (λi x hx=>by
      have a:=(bJ.1 hx).1
      have G:subS all (i:Int) (all.length:Int)=some (all.drop i):=by
       unfold subS
       rw[if_pos (by omega),zH,zH,List.take_length]
      unfold eo
      rw[bT,hx,bG,em,bG,G]
      simp only[bG,mA]
      cases decide (x∈c.A) <;> cases((all.drop i).any λy=>decide (y∈c.B)) <;> rfl)]
     have D:(all.zipIdx.all λq=> !decide (q.1∈c.A)||((all.drop q.2).any λy=>decide (y∈c.B)))= !dang (λx=>decide (x∈c.A)) (λx=>decide (x∈c.B)) all:=by
      rw[Bool.eq_iff_iff,Bool.not_eq_true',uX,List.all_eq_true]
      constructor
      · intro h i x hx ha
        have:=h (x,i) (List.mem_zipIdx_iff_getElem?.2 hx)
        dsimp only at this
        rw[ha]at this
        exact this
      · rintro h ⟨x,i⟩ hx
        have hx:=List.mem_zipIdx_iff_getElem?.1 hx
        dsimp only at hx ⊢
        cases ha:decide (x∈c.A) with
        | false=>rfl
        | true=>exact h i x hx ha
     simp only[bG,D]
     cases dang (λx=>decide (x∈c.A)) (λx=>decide (x∈c.B)) all with
     | true=>exact⟨_,rfl,rfl⟩
     | false=>exact⟨_,rfl,rfl⟩
   | false=>
    cases P:(c.Kind==4) with
    | true=>exact⟨_,rfl,rfl⟩
    | false=>
     cases Q:(c.Kind==5) with
     | true=>exact⟨_,rfl,rfl⟩
     | false=>
      cases R:(c.Kind==6) with
      | true=>exact⟨_,rfl,rfl⟩
      | false=>exact⟨_,rfl,rfl⟩
theorem oS (p:Sig){cs:List Clause}(hb:∀c∈cs,Clause.bd c) (w:Word):∃v,eJ p cs w=some v/\ip p cs w=some v/\(w.Loop.length=0->v= -2):=by
 unfold eJ ip
 rw[ml]
 cases hs:sigOk p with
 | false=>
  have:d9 p cs=some false:=by
   unfold d9
   rw[dE,hs];rfl
  rw[this]
  exact⟨-2,rfl,rfl,λ_=>rfl⟩
 | true=>
  have hl:=lI hs
  have j:fO p w=some (wordOk w (ltr p)):=by
   unfold fO
   rw[dE,hs,dM hs]
   simp only[bG,cond_true]
   rw[kr w (by omega) (by omega)];rfl
  rw[kN hs hb,mI hs hb,j,jg hs]
  simp only[bG,sh,cond_false,pi]
  cases hc:(decide ((cs.length:Int)<=3)&&cs.all (cQ p)) with
  | false=>exact⟨-2,rfl,rfl,λ_=>rfl⟩
  | true=>
   cases e:wordOk w (ltr p) with
   | false=>exact⟨-2,rfl,rfl,λ_=>rfl⟩
   | true=>
    simp only[sh,cond_false,bG]
    have a:=(Bool.and_eq_true_iff.1 hc).2
    rw[List.all_eq_true]at a
    have d:∀c∈cs,dR p c w=some ((dR p c w).getD false)/\kw c w=some ((dR p c w).getD false):=λc hm=>by
     obtain⟨v,h1,g⟩:=ui hs (hb c hm) (a c hm) e
     rw[h1,g]
     exact⟨rfl,rfl⟩
    rw[dS (λc=> !(dR p c w).getD false) (λc hm=>by
     unfold fJ
     rw[(d c hm).2];rfl)]
    rw[ee (f:=dD p cs w) (λc=> !(dR p c w).getD false) (λi=>(i:Int)) (xs:=cs) (λi c hx=>by
     unfold dD
     rw[bT,hx,bG,(d c (bL hx)).1,bG,Option.getD_some]
     cases(dR p c w).getD false <;> rfl)]
    have b:w.Loop.length=0->False:=λh=>by
     have:=(jc e).2.1
     omega
    cases cs.findIdx? (λc=> !(dR p c w).getD false) with
    | some i=>exact⟨_,rfl,rfl,λh=>(b h).elim⟩
    | none=>exact⟨_,rfl,rfl,λh=>(b h).elim⟩
end Go.Proofs.YtleekpaohfpooaaGreat
set_option linter.unusedVariables false
set_option linter.unusedSimpArgs false
namespace Go.Proofs.YtleekpaohfpooaaGreat
open Go Go.Wk Go.Proofs
section
variable {p:Sig}{m:Machine}(hm:machOk p m=true) (hs:sigOk p=true)
include hm hs
theorem mV {q:Int}{xs a:List Int}(t:0<=q) (u:q<m.Next.length) (hx:xs.all (inR (pw p.In))=true) (hl:xs.length+a.length<=1000000):iS xs a m q p=some (a++lettersM p m q xs,behind m q xs):=by
 obtain⟨_,_,C,l,n⟩:=c9 hm
 rw[List.all_eq_true]at hx
 have H:=eR p.In
 have I:=eR p.Out
 unfold iS
 have r:=lM (f:=gt xs m p) (λ(s:List Int×Int) x=>(s.1++[tab m.Out s.2 x * pw p.In+x],tab m.Next s.2 x)) (λj s=>0<=s.2/\s.2<m.Next.length/\s.1.length=a.length+j) (xs:=xs) (λi x s b ⟨g,k1,G⟩=>by
  obtain⟨c,d⟩:=dv.1 (hx x (bL b))
  obtain⟨row,v,w,k⟩:=iL l g k1 c d
  obtain⟨J,y,A,B⟩:=iL n g (by omega) c d
  have D:=(bJ.1 b).1
  have E:0<=tab m.Out s.2 x * pw p.In:=Int.mul_nonneg B.1 (by omega)
  have F:tab m.Out s.2 x * pw p.In<=4 * 4:=Int.mul_le_mul (by omega) (by omega) (by omega) (by omega)
  unfold gt
  rw[bT,b,bG,y,bG,A,bG,jR hs,bG,wr' (z:=tab m.Out s.2 x * pw p.In) (by omega) (by omega),wr' (by omega) (by omega),app1 (by omega) rfl,bG,v,bG,w]
  exact⟨rfl,k.1,k.2,by simp;omega⟩) (s:=(a,q)) ⟨t,u,rfl⟩
 rw[r.1]
 have e:∀(xs:List Int) (q:Int) (a:List Int),xs.foldl (λ(s:List Int×Int) x=>(s.1++[tab m.Out s.2 x * pw p.In+x],tab m.Next s.2 x)) (a,q)=(a++lettersM p m q xs,behind m q xs):=by
  intro xs
  induction xs with
  | nil=>intro q a;simp[behind,lettersM]
  | cons x xs o=>intro q a;rw[List.foldl_cons,o];simp[behind,lettersM]
 rw[e]
 rfl
theorem qF {w:Word}(S:wordOk w (pw p.In)=true):∃a b:List Int,a.length+b.length<=30000 /\
 bD (gN m 0 w.Stem) (λx42=>
 bD (cu (eE m w) (2 ^ 64) ((([]:List Int):(List Int)),(x42:Int))) λV=>
 aft (λr=>some r) (λn=>
  bD (ia n.1 n.2) λZ=>
  bD (fI p m 0 w.Stem) λaa=>
  bD (cntM (dY p m w n Z) n.1.length 0 ((aa:(List Int)),(([]:List Int):(List Int)))) λW=>
  aft (λr=>some r) (λo=>
   bif (decide (600<(o.1.length:Int))||decide (600<(o.2.length:Int))) then
    some ((⟨([]:List Int),([]:List Int)⟩:Word):Word)
   else
    some ((⟨o.1,o.2⟩:Word):Word)) W) V)=some (bif decide (600<(a.length:Int))||decide (600<(b.length:Int)) then⟨[],[]⟩ else⟨a,b⟩) /\
 lQ p m w=some (⟨a,b⟩,decide ((a.length:Int)<=600)&&decide ((b.length:Int)<=600)):=by
 obtain⟨an,ao,ah,ai,aj⟩:=c9 hm
 obtain⟨w1,ar,I,t,u⟩:=jc S
 rw[jx hm (by omega) (by omega) t,bG]
 unfold lQ
 rw[mV hm hs (by omega) (by omega) t (by simp;omega),bG,List.nil_append]
 have d:=oT hm (q:=0) (by omega) (by omega) t
 generalize e:behind m 0 w.Stem=q at d
 have hb:∀q:Int,0<=q->q<(m.Next.length:Nat)->0<=behind m q w.Loop/\behind m q w.Loop<(m.Next.length:Nat):=λq a b=>oT hm a b u
 have c:∀x,(lettersM p m x w.Loop).length=w.Loop.length:=λx=>kl p m _ _
 have g:(lettersM p m 0 w.Stem).length=w.Stem.length:=kl p m _ _
 have B:=ny (f:=eE m w) (λT q=>(T,q)) hb (λT q G hr v a1=>by
  unfold eE
  dsimp only
  rw[ib,bG,tD]
  by_cases e:q∈T
  · simp[e]
  · rw[app1 (by omega) rfl,jx hm v a1 u]
    simp[e]) (m.Next.length+1) (2 ^ 64) [] q (by simp) (by omega) (by simp) (by simp) d.1 d.2
 have l:=ny (f:=ji p m w) (λT q=>(T,lettersM p m 0 w.Stem++T.flatMap (λq=>lettersM p m q w.Loop),q)) hb (λT q G hr v a1=>by
  unfold ji
  dsimp only
  rw[cK,bG,pv]
  by_cases e:q∈T
  · simp[e]
  · have H:=io (part:=λq=>lettersM p m q w.Loop) c T
    have Q:T.length * w.Loop.length<=48 * 600:=Nat.mul_le_mul (by omega) I
    rw[app1 (by omega) rfl,mV hm hs v a1 u (by rw[zF,H];omega)]
    simp[e]) (m.Next.length+1) (2 ^ 64) [] q (by simp) (by omega) (by simp) (by simp) d.1 d.2
 obtain⟨y,A,i⟩:=n7 hb (m.Next.length+1) [] q (by simp) (by simp) (by simp) d.1 d.2
 generalize lasso (λq=>behind m q w.Loop) (m.Next.length+1) [] q=L at B l y A i
 obtain⟨T,z⟩:=L
 dsimp only at B l y A i
 have G:=di _ T A i
 have Q:T.length * w.Loop.length<=48 * 600:=Nat.mul_le_mul (by omega) I
 have H:=io (part:=λq=>lettersM p m q w.Loop) c T
 rw[List.flatMap_nil,List.append_nil]at l
 rw[B,l]
 simp only[bG,ca,ib,tk]
 obtain⟨k,U,ap,aq⟩:=oF y
 rw[U,iG hm hs (by omega) (by omega) t (by omega),bG]
 have al:k * w.Loop.length<=T.length * w.Loop.length:=Nat.mul_le_mul_right _ (by omega)
 have ht:=re (part:=λq=>lettersM p m q w.Loop) c T k
 -- the second loop
 obtain⟨s,c1,c2⟩:=cJ (f:=dY p m w (T,z) (k:Int)) (λj (s:List Int×List Int)=>s=(lettersM p m 0 w.Stem++((T.take j).take k).flatMap (λq=>lettersM p m q w.Loop),((T.take j).drop k).flatMap (λq=>lettersM p m q w.Loop))) T.length (s:=(lettersM p m 0 w.Stem,[])) (by simp) (λj s hj R=>by
  have hx:T[j]? =some T[j]:=by simp[hj]
  obtain⟨X,Y⟩:=i T[j] (by simp)
  have P:(T.take j).length=j:=by rw[zJ];omega
  have hjl:j * w.Loop.length<=T.length * w.Loop.length:=Nat.mul_le_mul_right _ (by omega)
  have K:=io (part:=λq=>lettersM p m q w.Loop) c ((T.take j).take k)
  have M:=io (part:=λq=>lettersM p m q w.Loop) c ((T.take j).drop k)
  have ab:((T.take j).take k).length * w.Loop.length<=T.length * w.Loop.length:=Nat.mul_le_mul_right _ (by rw[zJ];omega)
  have ac:((T.take j).drop k).length * w.Loop.length<=T.length * w.Loop.length:=Nat.mul_le_mul_right _ (by rw[List.length_drop];omega)
  subst R
  unfold dY
  dsimp only
  rw[bT,hx,bG,iG hm hs X Y u (by omega),bG]
  have O:T.take (j+1)=T.take j++[T[j]]:=by rw[List.take_add_one,hx];rfl
  have am:(T.take j++[T[j]]).length=j+1:=by rw[zF,P];rfl
  rw[O]
  by_cases ak:j<k
  · simp only[show(j:Int)<(k:Int) from by omega,decide_true,cond_true]
    rw[appL (by rw[zF,K,g,c];omega) rfl,bG,bG]
    refine⟨_,rfl,?_⟩
    rw[List.take_of_length_le (show(T.take j).length<=k by omega),List.drop_of_length_le (show(T.take j).length<=k by omega),List.take_of_length_le (show(T.take j++[T[j]]).length<=k by omega),List.drop_of_length_le (show(T.take j++[T[j]]).length<=k by omega)]
    simp only[List.flatMap_append,List.flatMap_cons,List.flatMap_nil,List.append_nil,List.append_assoc]
  · simp only[show ¬(j:Int)<(k:Int) from by omega,decide_false,cond_false]
    rw[appL (by rw[M,c];omega) rfl,bG,bG]
    refine⟨_,rfl,?_⟩
    rw[List.take_append_of_le_length (show k<=(T.take j).length by omega),List.drop_append_of_le_length (show k<=(T.take j).length by omega)]
    simp)
 rw[c1,c2,List.take_length]
 simp only[bG,ca,orE]
 have J:IntKind.i64.wrap ((w.Stem.length:Int)+IntKind.i64.wrap ((k:Int) * (w.Loop.length:Int)))=((w.Stem.length+k * w.Loop.length:Nat):Int):=by
  have:((k * w.Loop.length:Nat):Int)=(k:Int) * (w.Loop.length:Int):=by simp
  rw[wr' (z:=(k:Int) * (w.Loop.length:Int)) (by omega) (by omega),wr' (by omega) (by omega)]
  omega
 obtain⟨C,D⟩:=yD (part:=λq=>lettersM p m q w.Loop) c (lettersM p m 0 w.Stem) (T:=T) (k:=k) (by omega)
 rw[g]at C D
 rw[J,C,D]
 have E:=io (part:=λq=>lettersM p m q w.Loop) c (T.take k)
 have F:=io (part:=λq=>lettersM p m q w.Loop) c (T.drop k)
 have ad:(T.take k).length * w.Loop.length<=T.length * w.Loop.length:=Nat.mul_le_mul_right _ (by rw[zJ];omega)
 have ae:(T.drop k).length * w.Loop.length<=T.length * w.Loop.length:=Nat.mul_le_mul_right _ (by rw[List.length_drop];omega)
 have af:(lettersM p m 0 w.Stem++(T.take k).flatMap (λq=>lettersM p m q w.Loop)).length<=600+28800:=by rw[zF,E,g];omega
 have N:(T.take k).length+(T.drop k).length=T.length:=by rw[zJ,List.length_drop];omega
 have ag:(T.take k).length * w.Loop.length+(T.drop k).length * w.Loop.length=T.length * w.Loop.length:=by rw[← Nat.add_mul,N]
 refine⟨_,_,?_,iteE _ _ _,?_⟩
 · rw[zF,E,F,g];omega
 · simp only[bG]
   rw[appL (by rw[zK];omega) rfl,appL (by rw[zK,F];omega) rfl]
   simp only[bG,List.nil_append,andE,bifA]
end
theorem rK (p:Sig) (m:Machine) (w:Word):∃r,iY p m w=some r/\lN p m w=some r/\r.Stem.length<=30000/\r.Loop.length<=30000:=by
 unfold iY lN
 rw[kS,ml,bG,bG]
 cases hs:sigOk p with
 | false=>exact⟨_,rfl,rfl,by simp,by simp⟩
 | true=>
  rw[kF hs]
  cases hm:machOk p m with
  | false=>exact⟨_,rfl,rfl,by simp,by simp⟩
  | true=>
   have j:=eR p.In
   have g:∀xs:List Int,fw p xs=some (decide ((xs.length:Int)<=600)&&xs.all (inR (pw p.In))):=λxs=>by
    unfold fw
    rw[eF,dc (dN hs).1,bG,bG,fV xs (by omega) (by omega),bG,andE,bG]
   simp only[g,jR hs,pi,sh,Bool.and_self,cond_false,bG,orE]
   have hc:(!(decide ((w.Stem.length:Int)<=600)&&w.Stem.all (inR (pw p.In))) || !(decide ((w.Loop.length:Int)<=600)&&w.Loop.all (inR (pw p.In)))||((w.Loop.length:Int)==0))= !(wordOk w (pw p.In)):=by
    unfold wordOk
    have:decide (1<=(w.Loop.length:Int))= !((w.Loop.length:Int)==0):=by
     by_cases h:(w.Loop.length:Int)=0
     · simp[h]
     · have h1:1<=(w.Loop.length:Int):=by omega
       have c:((w.Loop.length:Int)==0)=false:=by rw[beq_eq_false_iff_ne];exact h
       rw[c,decide_eq_true h1];rfl
    rw[this]
    generalize decide ((w.Stem.length:Int)<=600)=b1
    generalize w.Stem.all (inR (pw p.In))=b2
    generalize decide ((w.Loop.length:Int)<=600)=b3
    generalize w.Loop.all (inR (pw p.In))=b4
    generalize((w.Loop.length:Int)==0)=b5
    cases b1 <;> cases b2 <;> cases b3 <;> cases b4 <;> cases b5 <;> rfl
   rw[hc]
   cases i:wordOk w (pw p.In) with
   | false=>exact⟨_,rfl,rfl,by simp,by simp⟩
   | true=>
    obtain⟨a,b,hl,h1,c⟩:=qF hm hs i
    simp only[sh,cond_false]
    rw[h1,c,bG]
    refine⟨_,rfl,?_,?_,?_⟩
    · by_cases k1:(a.length:Int)<=600
      · by_cases f:(b.length:Int)<=600
        · have d:¬600<(a.length:Int):=by omega
          have e:¬600<(b.length:Int):=by omega
          simp[k1,f,d,e]
        · have e:600<(b.length:Int):=by omega
          simp[k1,f,e]
      · have d:600<(a.length:Int):=by omega
        simp[k1,d]
    · cases(decide (600<(a.length:Int))||decide (600<(b.length:Int)))
      · show a.length<=30000;omega
      · simp
    · cases(decide (600<(a.length:Int))||decide (600<(b.length:Int)))
      · show b.length<=30000;omega
      · simp
end Go.Proofs.YtleekpaohfpooaaGreat
set_option linter.unusedVariables false
set_option linter.unusedSimpArgs false
namespace Go.Proofs.YtleekpaohfpooaaGreat
open Go Go.Wk Go.Proofs
theorem zD {z:Int}(h0:0<=z) (h1:z<18446744073709551616):IntKind.u64.wrap z=z:=by
 simp[IntKind.wrap,IntKind.bits,IntKind.signed]
 omega
theorem gj {d:dice}(hb:∀x∈d.b,U8 x) (hl:d.b.length<=4096) (e:0<=d.i) (f:d.i<=4096){k:Int}(hk:1<=k):∃x i h,cV d k=some (x,i,h)/\0<=x/\x<k/\0<=i/\i<=4096:=by
 unfold cV
 have b:nz k=some ():=by unfold nz;rw[if_neg (by omega)]
 generalize hA:(BitVec.ofInt (IntKind.bits IntKind.u64) (Int.fdiv (IntKind.u64.wrap (IntKind.u64.wrap (d.h * 6364136223846793005)+1442695040888963407)) (2 ^ (min (Int.toNat 33) (IntKind.bits IntKind.u64)))))=A
 have hy:(BitVec.toNat (A &&& BitVec.ofInt (IntKind.bits IntKind.u64) 16777215))<=16777215:=by
  rw[BitVec.toNat_and]
  refine Nat.le_trans Nat.and_le_right ?_
  decide
 generalize(BitVec.toNat (A &&& BitVec.ofInt (IntKind.bits IntKind.u64) 16777215))=y at hy
 rw[zD (by omega) (by omega),wr' (z:=(y:Int)) (by omega) (by omega)]
 by_cases a:d.i<(d.b.length:Int)
 · obtain⟨x,hx,hm⟩:=iH (xs:=d.b) e a
   have c:=hb x hm
   unfold U8 at c
   simp only[a,decide_true,cond_true,hx,bG,b]
   rw[wr' (z:=x) (by omega) (by omega),wr' (z:=(y:Int)+x) (by omega) (by omega),wr' (by omega) (by omega),Int.tmod_eq_emod_of_nonneg (by omega)]
   exact⟨_,_,_,rfl,Int.emod_nonneg _ (by omega),Int.emod_lt_of_pos _ (by omega),by omega,by omega⟩
 · simp only[a,decide_false,cond_false,bG,b]
   rw[Int.tmod_eq_emod_of_nonneg (by omega)]
   exact⟨_,_,_,rfl,Int.emod_nonneg _ (by omega),Int.emod_lt_of_pos _ (by omega),by omega,by omega⟩
theorem yh (b:List Int) (k:Int):∃h,p5 b k=some ⟨b,0,h⟩:=by
 unfold p5
 obtain⟨s,h1,_⟩:=cJ (f:=lR b) (λ_ _=>True) b.length (s:=(IntKind.u64.wrap ((IntKind.u64.wrap (k * 7919))+(IntKind.u64.wrap (b.length:Int))))) trivial (λj s hj _=>by
  have hx:b[j]? =some b[j]:=by simp[hj]
  unfold lR
  rw[bT,hx]
  exact⟨_,rfl,trivial⟩)
 rw[h1]
 exact⟨s,rfl⟩
end Go.Proofs.YtleekpaohfpooaaGreat
set_option linter.unusedVariables false
set_option linter.unusedSimpArgs false
namespace Go.Proofs.YtleekpaohfpooaaGreat
open Go Go.Wk Go.Proofs
section
variable {b:List Int}(hb:∀x∈b,U8 x) (hl:b.length<=4096)
include hb hl
theorem wN {most:Int}(hm1:1<=most) (au:most<=40){p:Sig}(hs:sigOk p=true){i h:Int}(aa:0<=i) (ab:i<=4096):∃m l U,j4 ⟨b,i,h⟩ p most=some (m,l,U)/\machOk p m=true/\0<=l/\l<=4096/\(m.Next.length:Int)<=most:=by
 obtain⟨x,o,c,a1,a2,ao,r,u⟩:=gj (d:=⟨b,i,h⟩) hb hl aa ab (k:=most) (by omega)
 obtain⟨W,X⟩:=dN hs
 have am:(bif (p.In==2) then some (4:Int) else some 2)=some (pw p.In):=by rcases W with e | e <;> rw[e] <;> decide
 have an:(bif (p.Out==2) then some (4:Int) else some 2)=some (pw p.Out):=by rcases X with e | e <;> rw[e] <;> decide
 have ax:=eR p.In
 have ay:=eR p.Out
 obtain⟨w,g⟩:=dy (z:=pw p.In) (by omega)
 obtain⟨n,hn⟩:=dy (z:=1+x) (by omega)
 have q:IntKind.i64.wrap (1+x)=(n:Int):=by rw[wr' (by omega) (by omega)];exact hn
 unfold j4
 rw[a1,bG,am,bG,an,bG]
 dsimp only
 have Y:rng (n:Int)=some ():=by unfold rng;rw[if_pos (by omega)]
 have Z:rng (w:Int)=some ():=by unfold rng;rw[if_pos (by omega)]
 rw[q,Y,bG,Int.sub_zero,zH,g]
 obtain⟨s,k1,ad,ae,af,aw,ag,k7⟩:=cJ (f:=gx ⟨b,i,h⟩ (x,o,c) (w:Int) (pw p.Out)) (λj (s:Int×Int×List (List Int)×List (List Int))=>0<=s.1/\s.1<=4096/\s.2.2.1.length=j/\s.2.2.2.length=j/\(∀row∈s.2.2.1,RowIn n w row)/\∀row∈s.2.2.2,RowIn (pw p.Out) w row) n (s:=(o,c,[],[])) ⟨r,u,rfl,rfl,by simp,by simp⟩ (λj s hj ⟨c1,c2,A,B,C,D⟩=>by
  obtain⟨t,E,F,G,ap,aq,H,I⟩:=cJ (f:=gz ⟨b,i,h⟩ (x,o,c) (pw p.Out)) (λj (t:List Int×List Int×Int×Int)=>0<=t.2.2.1/\t.2.2.1<=4096/\t.1.length=j/\t.2.1.length=j/\(∀y∈t.1,0<=y/\y<n)/\∀y∈t.2.1,0<=y/\y<pw p.Out) w (s:=([],[],s.1,s.2.1)) ⟨c1,c2,rfl,rfl,by simp,by simp⟩ (λj t hj ⟨J,K,L,M,N,O⟩=>by
   obtain⟨y,ac,V,P,Q,R,S,T⟩:=gj (d:=⟨b,t.2.2.1,t.2.2.2⟩) hb hl J K (k:=(n:Int)) (by omega)
   obtain⟨z,av,ar,ah,ai,aj,ak,al⟩:=gj (d:=⟨b,ac,V⟩) hb hl S T (k:=pw p.Out) (by omega)
   unfold gz
   dsimp only
   rw[q,P,bG,app1 (by omega) rfl,bG,ah,bG,app1 (by omega) rfl]
   refine⟨_,rfl,ak,al,by dsimp only;rw[zF,L];rfl,by dsimp only;rw[zF,M];rfl,λv a=>?_,λv a=>?_⟩
   · dsimp only at a
     rw[zN,zG]at a
     rcases a with a | rfl
     · exact N v a
     · exact⟨Q,R⟩
   · dsimp only at a
     rw[zN,zG]at a
     rcases a with a | rfl
     · exact O v a
     · exact⟨ai,aj⟩)
  unfold gx
  rw[Z,bG,Int.sub_zero,zH,E,bG,ca,app1 (by omega) rfl,bG,app1 (by omega) rfl]
  refine⟨_,rfl,F,G,by dsimp only;rw[zF,A];rfl,by dsimp only;rw[zF,B];rfl,λv a=>?_,λv a=>?_⟩
  · dsimp only at a
    rw[zN,zG]at a
    rcases a with a | rfl
    · exact C v a
    · exact⟨by omega,H⟩
  · dsimp only at a
    rw[zN,zG]at a
    rcases a with a | rfl
    · exact D v a
    · exact⟨by omega,I⟩)
 rw[k1]
 refine⟨⟨s.2.2.1,s.2.2.2⟩,s.1,s.2.1,rfl,rq (by dsimp only;omega) (by dsimp only;omega) (by dsimp only;omega) (by dsimp only;rw[af,g];exact ag) (by dsimp only;rw[g];exact k7),ad,ae,by dsimp only;omega⟩
end
end Go.Proofs.YtleekpaohfpooaaGreat
set_option linter.unusedVariables false
set_option linter.unusedSimpArgs false
namespace Go.Proofs.YtleekpaohfpooaaGreat
open Go Go.Wk Go.Proofs
theorem ins9 {b:List Int}(hb:∀x∈b,U8 x) (hl:b.length<=4096){k i h:Int}(E:0<=k) (F:k<=4) (y:0<=i) (z:i<=4096):∃w c v,nv ⟨b,i,h⟩ 2 k=some (w,c,v)/\(w.length:Int)=k/\(∀x∈w,0<=x/\x<2)/\0<=c/\c<=4096:=by
 obtain⟨o,w1,e⟩:=cZ (f:=kJ ⟨b,i,h⟩ 2) (λj (s:Int×List Int×Int×Int)=>s.1=k-(j:Int)/\(j:Int)<=k/\0<=s.2.2.1/\s.2.2.1<=4096/\s.2.1.length=j/\∀x∈s.2.1,0<=x/\x<2) (λ_=>False) (λs=>(s.2.1.length:Int)=k/\(∀x∈s.2.1,0<=x/\x<2)/\0<=s.2.2.1/\s.2.2.1<=4096) 5 (λj s ⟨A,B,g,l,p,m⟩=>by
  unfold kJ
  by_cases n:0<s.1
  · obtain⟨x,D,C,c1,c2,q,r,t⟩:=gj (d:=⟨b,s.2.2.1,s.2.2.2⟩) hb hl g l (k:=2) (by omega)
    rw[decide_eq_true n,cond_true,c1,bG,app1 (by omega) rfl,bG,wr' (by omega) (by omega)]
    refine⟨_,rfl,by omega,by dsimp only;omega,by omega,r,t,by dsimp only;rw[zF,p];rfl,λu a=>?_⟩
    rcases zN.1 a with a | a
    · exact m u a
    · rw[zG.1 a];exact⟨c2,q⟩
  · rw[decide_eq_false n,cond_false]
    exact⟨_,rfl,by dsimp only;omega,m,g,l⟩) (2 ^ 64) 0 (k,[],i,h) (by omega) ⟨by dsimp only;omega,by omega,y,z,rfl,by simp⟩ (by omega)
 unfold nv
 match o,e with
 | .inr s,e=>
  rw[w1,bG,ca]
  exact⟨_,_,_,rfl,e⟩
end Go.Proofs.YtleekpaohfpooaaGreat
set_option linter.unusedVariables false
set_option linter.unusedSimpArgs false
namespace Go.Proofs.YtleekpaohfpooaaGreat
open Go Go.Wk Go.Proofs
theorem St.up {q:Nat}{A:List Int}(h:St q A):St (q+1) A:=⟨h.asc,λx hx=>by have:=h.rng x hx;omega⟩
theorem St.push {q:Nat}{A:List Int}(h:St q A):St (q+1) (A++[(q:Int)]):=⟨List.pairwise_append.2 ⟨h.asc,by simp,λa ha b hb=>by
 rw[zG]at hb
 have:=h.rng a ha
 omega⟩,λx hx=>by
 rcases zN.1 hx with hx | hx
 · have:=h.rng x hx;omega
 · rw[zG.1 hx];omega⟩
section
variable {b:List Int}(hb:∀x∈b,U8 x) (hl:b.length<=4096)
include hb hl
theorem sZ {i h:Int}(aj:0<=i) (ak:i<=4096):∃cs l z,jZ ⟨b,i,h⟩ 2=some (cs,l,z)/\(∀c∈cs,c.A.length<=4/\c.B.length<=4/\cQ ⟨1,1⟩ c=true)/\cs.length<=2/\0<=l/\l<=4096:=by
 obtain⟨x,al,aa,a1,a2,ax,L,M⟩:=gj (d:=⟨b,i,h⟩) hb hl aj ak (k:=3) (by omega)
 obtain⟨o,w1,g⟩:=cZ (f:=gv ⟨b,i,h⟩) (λj (s:List Clause×Int×Int×Int)=>s.2.1=x-(j:Int)/\(j:Int)<=x/\0<=s.2.2.1/\s.2.2.1<=4096/\s.1.length=j/\∀c∈s.1,c.A.length<=4/\c.B.length<=4/\cQ ⟨1,1⟩ c=true) (λ_=>False) (λs=>(∀c∈s.1,c.A.length<=4/\c.B.length<=4/\cQ ⟨1,1⟩ c=true)/\s.1.length<=2/\0<=s.2.2.1/\s.2.2.1<=4096) 3 (λj s ⟨N,ay,p,r,C,w⟩=>by
  obtain⟨cs,k,l,z⟩:=s
  dsimp only at N p r C w
  unfold gv
  dsimp only
  by_cases J:0<k
  · obtain⟨y,K,I,c1,c2,az,O,P⟩:=gj (d:=⟨b,l,z⟩) hb hl p r (k:=7) (by omega)
    obtain⟨t,Q,R,S,D,E,T⟩:=cJ (f:=gw ⟨b,i,h⟩ (y,K,I)) (λq (t:Int×Int×List Int×List Int)=>0<=t.1/\t.1<=4096/\St q t.2.2.1/\St q t.2.2.2/\(t.2.2.2=[]\/1+y=2\/1+y=3\/1+y=7)) 4 (s:=(K,I,[],[])) ⟨O,P,⟨List.Pairwise.nil,by simp⟩,⟨List.Pairwise.nil,by simp⟩,.inl rfl⟩ (λq t aG ⟨F,G,n,a,H⟩=>by
     obtain⟨au,ar,A,B⟩:=t
     dsimp only at F G n a H
     have hle:=n.len
     have aF:=a.len
     have hy:IntKind.i64.wrap (1+y)=1+y:=wr' (by omega) (by omega)
     obtain⟨u,am,ab,U,aA,aB,V,W⟩:=gj (d:=⟨b,au,ar⟩) hb hl F G (k:=2) (by omega)
     obtain⟨v,aH,aE,X,aC,aD,Y,Z⟩:=gj (d:=⟨b,am,ab⟩) hb hl V W (k:=2) (by omega)
     unfold gw
     dsimp only
     rw[U,bG]
     obtain⟨A',ac,ad⟩:∃A',(bif (u==0) then bD (appS 8 A [(q:Int)]) λav=>some av else some A)=some A'/\St (q+1) A':=by
      cases u==0 with
      | true=>exact⟨A++[(q:Int)],by rw[cond_true,app1 (by omega) rfl];rfl,n.push⟩
      | false=>exact⟨A,rfl,n.up⟩
     rw[ac,bG,X,bG]
     have ag:∃m,(bif (v==0) then bD (bif (IntKind.i64.wrap (1+y)==2) then some true else some (IntKind.i64.wrap (1+y)==3)) λap=>bD (bif ap then some true else some (IntKind.i64.wrap (1+y)==7)) λaq=>some aq else some false)=some m/\(m=true->1+y=2\/1+y=3\/1+y=7):=by
      rw[hy]
      cases v==0 with
      | false=>exact⟨_,rfl,λe=>by cases e⟩
      | true=>
       cases an:(1+y==2) with
       | true=>exact⟨_,rfl,λ_=> .inl (by simpa using an)⟩
       | false=>
        cases ao:(1+y==3) with
        | true=>exact⟨_,rfl,λ_=> .inr (.inl (by simpa using ao))⟩
        | false=>exact⟨_,rfl,λe=> .inr (.inr (by simpa using e))⟩
     obtain⟨m,hpb,ai⟩:=ag
     rw[hpb,bG]
     obtain⟨B',hB,ae,af⟩:∃B',(bif m then bD (appS 8 B [(q:Int)]) λaw=>some aw else some B)=some B'/\St (q+1) B'/\(B'=[]\/1+y=2\/1+y=3\/1+y=7):=by
      cases m with
      | true=>exact⟨B++[(q:Int)],by rw[cond_true,app1 (by omega) rfl];rfl,a.push,.inr (ai rfl)⟩
      | false=>exact⟨B,rfl,a.up,H⟩
     rw[hB,bG]
     exact⟨_,rfl,Y,Z,ad,ae,af⟩)
    rw[decide_eq_true J,cond_true,c1,bG]
    have a:Int.toNat (4-0)=4:=rfl
    rw[a,Q,bG,ca,app1 (by omega) rfl,bG]
    refine⟨_,rfl,by omega,by dsimp only;rw[wr' (by omega) (by omega)];omega,by omega,R,S,by dsimp only;simp[C],λc hc=>?_⟩
    rcases zN.1 hc with hc | hc
    · exact w c hc
    · rw[zG.1 hc]
      have hy:IntKind.i64.wrap (1+y)=1+y:=wr' (by omega) (by omega)
      have ah:ltr (⟨1,1⟩:Sig)=4:=by decide
      refine⟨D.len,E.len,?_⟩
      unfold cQ
      dsimp only
      rw[hy,ah,decide_eq_true (by omega),decide_eq_true (by omega),D.ok (by omega),E.ok (by omega)]
      rcases T with e | e | e | e
      · rw[e];simp
      · rw[e];rfl
      · rw[e];rfl
      · rw[e];rfl
  · rw[decide_eq_false J,cond_false]
    exact⟨_,rfl,w,by dsimp only;omega,p,r⟩) (2 ^ 64) 0 ([],x,al,aa) (by omega) ⟨by dsimp only;omega,by omega,L,M,rfl,by simp⟩ (by omega)
 unfold jZ
 rw[wr' (by omega) (by omega),show(2:Int)+1=3 from rfl,a1,bG]
 dsimp only
 match o,g with
 | .inr s,g=>
  rw[w1,bG,ca]
  exact⟨_,_,_,rfl,g.1,g.2.1,g.2.2.1,g.2.2.2⟩
end
end Go.Proofs.YtleekpaohfpooaaGreat
set_option linter.unusedVariables false
set_option linter.unusedSimpArgs false
namespace Go.Proofs.YtleekpaohfpooaaGreat
open Go Go.Wk Go.Proofs
theorem FnVerify_law {p0:List Int}(aG:okS U8 p0):mo p0=some true:=by
 unfold mo vh
 rw[bG]
 by_cases C:4096<(p0.length:Int)
 · rw[decide_eq_true C,cond_true]
 · rw[decide_eq_false C,cond_false]
   have hb:=aG.1
   have hl:p0.length<=4096:=by omega
   have hs:sigOk ⟨1,1⟩=true:=by decide
   have l:pw (⟨1,1⟩:Sig).In=2:=by decide
   obtain⟨h,hr⟩:=yh p0 930
   rw[hr,bG]
   obtain⟨m,aW,h1,a1,a2,O,P,aK⟩:=wN hb hl (most:=4) (by omega) (by omega) hs (i:=0) (h:=h) (by omega) (by omega)
   rw[a1,bG]
   dsimp only
   obtain⟨cs,aC,ag,Q,p,j,R,S⟩:=sZ hb hl (h:=h1) O P
   rw[Q,bG]
   dsimp only
   have b:∀c∈cs,Clause.bd c:=λc hc=>by
    obtain⟨x,y,_⟩:=p c hc
    exact⟨trivial,⟨by omega,λ_ _=>trivial⟩,⟨by omega,λ_ _=>trivial⟩⟩
   have f:∀c∈cs,cQ ⟨1,1⟩ c=true:=λc hc=>(p c hc).2.2
   obtain⟨x,aD,ah,c1,c2,aL,T,U⟩:=gj (d:=⟨p0,aC,ag⟩) hb hl R S (k:=2) (by omega)
   rw[c1,bG]
   dsimp only
   -- the machine
   obtain⟨M,ao,u,ap⟩:∃M:Machine,(bif (x==0) then
    bD (gD (⟨1,1⟩:Sig) cs) λo=>
    bD (bif o.2 then some ((o.1.Next:List (List Int)),(o.1.Out:List (List Int))) else some ((m.Next:List (List Int)),(m.Out:List (List Int)))) λg=>
    some ((g.1:List (List Int)),(g.2:List (List Int)))
    else some ((m.Next:List (List Int)),(m.Out:List (List Int))))=some (M.Next,M.Out)/\machOk ⟨1,1⟩ M=true/\∀n k D,PR n cs D->da ⟨1,1⟩ cs=some (D,true)->pw (⟨1,1⟩:Sig).In=((k:Nat):Int)->¬ManyK M D (pw (⟨1,1⟩:Sig).In) k:=by
    have hm:∀n k D,PR n cs D->da ⟨1,1⟩ cs=some (D,true)->pw (⟨1,1⟩:Sig).In=((k:Nat):Int)->¬ManyK m D (pw (⟨1,1⟩:Sig).In) k:=λn k D aq _ _=>vK j (by omega) aq
    cases x==0 with
    | false=>exact⟨m,rfl,a2,hm⟩
    | true=>
     obtain⟨_,_,_,_,_,_,_,_,_,_,_,⟨_,e⟩ | ⟨_,M,e,hB⟩⟩:=tU hs b f j
     · exact⟨m,by rw[e];rfl,a2,hm⟩
     · exact⟨M,by rw[e];rfl,(hB.good f).ok,λn k D _ hD hk=>hB.few hD hk⟩
   rw[ao,bG]
   dsimp only
   obtain⟨y,aX,ai,V,W,aM,X,Y⟩:=gj (d:=⟨p0,aD,ah⟩) hb hl T U (k:=4) (by omega)
   obtain⟨A,aE,aj,Z,aN,q,aa,ab⟩:=ins9 hb hl (h:=ai) W (by omega) X Y
   obtain⟨z,aY,ak,ac,aO,aP,ad,ae⟩:=gj (d:=⟨p0,aE,aj⟩) hb hl aa ab (k:=4) (by omega)
   obtain⟨B,aZ,aT,af,aQ,s,aR,aS⟩:=ins9 hb hl (h:=ak) (show 0<=1+z by omega) (by omega) ad ae
   rw[V,bG]
   dsimp only
   rw[Z,bG]
   dsimp only
   rw[ac,bG]
   dsimp only
   rw[wr' (z:=1+z) (by omega) (by omega),af,bG]
   dsimp only
   show bD (jG ⟨1,1⟩ M cs) _=_
   have aA:wordOk ⟨A,B⟩ 2=true:=by
    unfold wordOk
    dsimp only
    rw[decide_eq_true (by omega),decide_eq_true (by omega),decide_eq_true (by omega),List.all_eq_true.2 λx hx=>dv.2 (q x hx),List.all_eq_true.2 λx hx=>dv.2 (s x hx)]
    rfl
   have az:wordOk ⟨A,B⟩ (pw (⟨1,1⟩:Sig).In)=true:=by rw[l];exact aA
   obtain⟨n,k,D,K,w,a,k1,G,aF⟩:=xy hs b f j u ap
   have E:ef w=some (brkN w.next w.pairs w.pairs.length):=vM a.gn a.ps.2.2 a.ps.2.1 rfl rfl
   have al:jG ⟨1,1⟩ M cs=some (brkN w.next w.pairs w.pairs.length):=by
    unfold jG
    rw[G]
    simp only[bG,sh,cond_false,Option.getD_some,Option.isSome_some,guardS,if_true,E]
   have am:jH ⟨1,1⟩ M cs=some (((brkN w.next w.pairs w.pairs.length).length:Int)==0):=by
    unfold jH
    rw[G]
    simp only[bG,cond_true,Option.getD_some,Option.isSome_some,guardS,if_true,E]
   obtain⟨r,J,L,aI⟩:=wg u hs az (by dsimp only;omega)
   obtain⟨v,N,aJ⟩:=yl hs b f (by omega) L
   have an:kv ⟨1,1⟩ M cs ⟨A,B⟩=some (v== -1):=by
    obtain⟨r',H,g,_⟩:=rK ⟨1,1⟩ M ⟨A,B⟩
    rw[J]at H
    cases H
    obtain⟨a0,I,aH,_⟩:=oS ⟨1,1⟩ b r
    rw[N]at I
    cases I
    have:=(jc L).2.1
    unfold kv nt
    rw[g,bG,decide_eq_true (by omega),cond_true,aH];rfl
   have aU:=pN w.next w.pairs w.pairs.length
   have aV:=a.ps.2.1
   have ar:=sX w.next w.pairs w.pairs.length
   have au:∀z∈brkN w.next w.pairs w.pairs.length,0<=z/\z<256:=λz aB=>by
    obtain⟨i,F,e,_⟩:=(oh _ _ _ z).1 aB
    omega
   rw[al,bG]
   show bD (iY ⟨1,1⟩ M ⟨A,B⟩) _=_
   rw[J,bG,N,bG]
   show bD (jH ⟨1,1⟩ M cs) _=_
   rw[am,bG,bne_self_eq_false,cond_false]
   show bD (bD (kv ⟨1,1⟩ M cs ⟨A,B⟩) _) _=_
   rw[an,bG,bne_self_eq_false,bG,cond_false]
   rcases aJ with ⟨e,_⟩ | ⟨i,c,e,F,hn⟩
   · rw[e];rfl
   · have ay:(v== -1)=false:=by rw[beq_eq_false_iff_ne];omega
     have aw:v∈brkN w.next w.pairs w.pairs.length:=(aF v).2 ⟨i,c,e,F,ltW ⟨A,B⟩,λt=>by
      have av:0<(⟨A,B⟩:Word).Loop.length:=by dsimp only;omega
      rcases zN.1 (oA av t) with h | h
      · rw[l];exact q _ h
      · rw[l];exact s _ h,by rw[← aI];exact hn⟩
     have ax:lC (brkN w.next w.pairs w.pairs.length) 256=some true:=by
      rw[na (by omega) (by omega) (by omega)]
      exact congrArg some (ij.2 ⟨au,ar⟩)
     unfold pJ
     rw[ay,cond_false,ax,bG,cond_true,em,decide_eq_true aw];rfl
end Go.Proofs.YtleekpaohfpooaaGreat
