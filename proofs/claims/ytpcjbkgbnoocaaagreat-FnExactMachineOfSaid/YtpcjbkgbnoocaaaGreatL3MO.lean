/- MachineOf: both sides compute the same. -/
import Derived.Test.YtpcjbkgbnoocaaaGreatL2MO
set_option linter.unusedVariables false
set_option linter.unusedSimpArgs false
open Option renaming bind_some → ds
open List renaming mem_singleton → xl
namespace Go.Proofs.YtpcjbkgbnoocaaaGreat
open Go Go.Wk Go.Proofs
theorem pz (d:Det) (n m k:Nat) (P:List Place) (g:Parity) (pk:List Int):∀{i j:Nat},i<=j->(itM d n m k P g pk i).1.length<=(itM d n m k P g pk j).1.length:=by
 intro i j hij
 induction hij with
 | refl=>exact Nat.le_refl _
 | step _ ih=>exact Nat.le_trans ih (mn _ _ _).1
section
variable {p:Sig}(hs:sigOk p=true){d:Det}(hd:detOk p d=true) (hpb:∀x∈d.Pairs,x.Ask.length<=1000000000/\x.Give.length<=1000000000){n m k:Nat}{A:Arena}{P:List Place}{g:Parity}{W:Int->Prop}{pk wn:List Int}(h:Cx d n m k A P g W pk) (hm:pw p.In=(m:Int)) (hk:pw p.Out=(k:Int)) (h0:wB W 0=false)
include h h0
theorem kQ:∀j:Nat,(∀i,i<j->i<(itM d n m k P g pk i).1.length)->Mkr P.length m k (λx=>wB W x=false/\atP P x<(n:Int)) (itM d n m k P g pk j).1 j (itM d n m k P g pk j).2.1 (itM d n m k P g pk j).2.2
 | 0,_=>by
  obtain⟨_,_,_,_,hP1,_⟩:=h.len
  have hz:=h.rg.game.zero
  have hz0:atP P 0<(n:Int):=by
   rw[jh (v:=⟨0,firstR d.Pairs.length⟩) (by rw[show(0:Int)=((0:Nat):Int) from rfl,bH];exact hz)]
   have:=h.n1
   show(0:Int)<_
   omega
  refine⟨⟨by show[(0:Int)].Nodup;simp,λx hx=>?_⟩,λx hx=>?_,rfl,rfl,rfl,λx hx=>(by cases hx),λx hx=>(by cases hx)⟩
  · rw[xl.1 hx];omega
  · rw[xl.1 hx];exact⟨h0,hz0⟩
 | j+1,hj=>by
  have hM:=kQ j λi hi=>hj i (by omega)
  have hlt:=hj j (by omega)
  unfold itM
  generalize itM d n m k P g pk j=s at *
  obtain⟨F,Nx,Ou⟩:=s
  dsimp only at hM hlt ⊢
  have hx:F[j]? =some F[j]:=List.getElem?_eq_getElem hlt
  have hgd:F.getD j 0=F[j]:=by rw[List.getD_eq_getElem?_getD,hx];rfl
  rw[hgd]
  generalize F[j]=x at hx
  have hxm:=List.mem_of_getElem? hx
  obtain⟨hxw,hxa⟩:=hM.all x hxm
  obtain⟨v,hv,_,_⟩:=h.place (x:=x) (hM.nm.2 x hxm)
  rw[jh hv]at hxa ⊢
  obtain⟨q,r,e1,hq,hr,hrl,hR,hf⟩:=va h hv hxa hxw
  rw[dp hr,show v.At.toNat=q by omega]
  have hN:=sw (N:=P.length) (F:=F) (Q:=λx=>wB W x=false/\atP P x<(n:Int)) hM.nm hM.all (f:=fM pk P r n m q) (c:=m) (λi hi=>by
   obtain⟨_,_,_,_,_,_,_,_,_,_,t8,_⟩:=hf i hi
   exact t8) m (Nat.le_refl _)
  have hl:=hN.len
  refine⟨hN.nm,hN.all,hN.pre 0 _ hM.zero,by rw[List.length_append,hM.nxl];rfl,by rw[List.length_append,hM.oul];rfl,λrow hrow=>?_,λrow hrow=>?_⟩
  · rcases List.mem_append.1 hrow with hr' | hr'
    · obtain⟨b1,b2⟩:=hM.nxr row hr'
      exact⟨b1,λx hx=>by have:=b2 x hx;omega⟩
    · rw[xl.1 hr']
      exact⟨hN.rl,hN.rin⟩
  · rcases List.mem_append.1 hrow with hr' | hr'
    · exact hM.our row hr'
    · rw[xl.1 hr']
      refine⟨by rw[List.length_map,List.length_range],λy hy=>?_⟩
      obtain⟨i,hi,e⟩:=List.mem_map.1 hy
      obtain⟨_,_,_,_,_,_,_,_,_,_,_,_,t10⟩:=hf i (List.mem_range.1 hi)
      rw[← e];exact t10
include hs hd hpb hm hk
theorem ui:∃j:Nat,(∀i,i<j->i<(itM d n m k P g pk i).1.length)/\j=(itM d n m k P g pk j).1.length /\
 bZ (d6 p (d,true) (g,P,true) ⟨wn,pk⟩) (2 ^ 64) ([0],0,[],[])=some (.inr ((itM d n m k P g pk j).1,(j:Int),(itM d n m k P g pk j).2.1,(itM d n m k P g pk j).2.2)) /\
 bZ (fE p d g P pk) (2 ^ 64) ([0],0,[],[])=some (if(itM d n m k P g pk j).1.length<=48 then .inr ((itM d n m k P g pk j).1,(j:Int),(itM d n m k P g pk j).2.1,(itM d n m k P g pk j).2.2) else .inl (⟨[],[]⟩,false)):=by
 obtain⟨_,_,_,hP256,_,_⟩:=h.len
 have hm1:=h.m1
 have hm4:=h.m4
 have hrm:rng (m:Int)=some ():=by unfold rng;rw[if_pos (by omega)]
 have hm0:Int.toNat ((m:Int)-0)=m:=by omega
 -- one step of both
 have hstep:∀j:Nat,(∀i,i<j->i<(itM d n m k P g pk i).1.length)->j<(itM d n m k P g pk j).1.length->∃x v,(itM d n m k P g pk j).1[j]? =some x/\idx P x=some v /\
  (∃e,bZ (er p d g P pk ((itM d n m k P g pk j).1,(j:Int),(itM d n m k P g pk j).2.1,(itM d n m k P g pk j).2.2) v) (2 ^ 64) ((itM d n m k P g pk j).1,[],[],0)=some (.inr ((itM d n m k P g pk (j+1)).1,(c7 (fM pk P (cG g.Arena x) n m (atP P x).toNat) (itM d n m k P g pk j).1 m).2,(List.range m).map (oM d pk P (cG g.Arena x) n m k (atP P x).toNat),e))) /\
  cntM (dm p (d,true) (g,P,true) ⟨wn,pk⟩ ((itM d n m k P g pk j).1,(j:Int),(itM d n m k P g pk j).2.1,(itM d n m k P g pk j).2.2) v) m 0 ((itM d n m k P g pk j).1,[],[])=some (.inr ((itM d n m k P g pk (j+1)).1,(c7 (fM pk P (cG g.Arena x) n m (atP P x).toNat) (itM d n m k P g pk j).1 m).2,(List.range m).map (oM d pk P (cG g.Arena x) n m k (atP P x).toNat))) /\
  itM d n m k P g pk (j+1)=((itM d n m k P g pk (j+1)).1,(itM d n m k P g pk j).2.1++[(c7 (fM pk P (cG g.Arena x) n m (atP P x).toNat) (itM d n m k P g pk j).1 m).2],(itM d n m k P g pk j).2.2++[(List.range m).map (oM d pk P (cG g.Arena x) n m k (atP P x).toNat)]):=λj hj hlt=>by
  have hM:=kQ h h0 j hj
  have hFl:=hM.nm.len
  have hx:(itM d n m k P g pk j).1[j]? =some ((itM d n m k P g pk j).1[j]):=List.getElem?_eq_getElem hlt
  have hgd:(itM d n m k P g pk j).1.getD j 0=(itM d n m k P g pk j).1[j]:=by rw[List.getD_eq_getElem?_getD,hx];rfl
  have hE:itM d n m k P g pk (j+1)=((c7 (fM pk P (cG g.Arena ((itM d n m k P g pk j).1[j])) n m (atP P ((itM d n m k P g pk j).1[j])).toNat) (itM d n m k P g pk j).1 m).1,(itM d n m k P g pk j).2.1++[(c7 (fM pk P (cG g.Arena ((itM d n m k P g pk j).1[j])) n m (atP P ((itM d n m k P g pk j).1[j])).toNat) (itM d n m k P g pk j).1 m).2],(itM d n m k P g pk j).2.2++[(List.range m).map (oM d pk P (cG g.Arena ((itM d n m k P g pk j).1[j])) n m k (atP P ((itM d n m k P g pk j).1[j])).toNat)]):=by
   rw[← hgd];rfl
  generalize(itM d n m k P g pk j).1[j]=x at hx hE
  have hxm:=List.mem_of_getElem? hx
  obtain⟨hxw,hxa⟩:=hM.all x hxm
  obtain⟨v,hv,_,_⟩:=h.place (x:=x) (hM.nm.2 x hxm)
  have hat:=jh hv
  rw[hat]at hxa
  obtain⟨q,r,e1,hq,hr,_⟩:=va h hv hxa hxw
  obtain⟨c1,c2⟩:=vl (wn:=wn) hs hd hpb h hm hk (F:=(itM d n m k P g pk j).1) (by omega) (z:=j) (Nx:=(itM d n m k P g pk j).2.1) (Ou:=(itM d n m k P g pk j).2.2) hx hv hxa hxw e1 hr
  rw[dp hr,hat,show v.At.toNat=q by omega]at hE
  have hE1:=congrArg Prod.fst hE
  dsimp only at hE1
  refine⟨x,v,hx,hv,?_,?_,?_⟩
  · rw[dp hr,hat,show v.At.toNat=q by omega,hE1];exact c1
  · rw[dp hr,hat,show v.At.toNat=q by omega,hE1];exact c2
  · rw[dp hr,hat,show v.At.toNat=q by omega,hE1];exact hE
 obtain⟨o,w1,w2⟩:=cu (f:=d6 p (d,true) (g,P,true) ⟨wn,pk⟩) (λj (s:List Int×Int×List (List Int)×List (List Int))=>s=((itM d n m k P g pk j).1,(j:Int),(itM d n m k P g pk j).2.1,(itM d n m k P g pk j).2.2)/\∀i,i<j->i<(itM d n m k P g pk i).1.length) (λ_=>False)
  (λs=>∃j:Nat,s=((itM d n m k P g pk j).1,(j:Int),(itM d n m k P g pk j).2.1,(itM d n m k P g pk j).2.2)/\(∀i,i<j->i<(itM d n m k P g pk i).1.length)/\j=(itM d n m k P g pk j).1.length) 256 (λj s ⟨e,hj⟩=>by
  subst e
  have hM:=kQ h h0 j hj
  have hFl:=hM.nm.len
  have e1:=hM.nxl
  have e2:=hM.oul
  unfold d6
  dsimp only
  by_cases hlt:j<(itM d n m k P g pk j).1.length
  · obtain⟨x,v,hx,hv,_,c2,hE⟩:=hstep j hj hlt
    rw[decide_eq_true (show(j:Int)<((itM d n m k P g pk j).1.length:Int) by omega),cond_true,bH,hx,ds,hv,ds,iI hs,hm,ds,hrm,ds,hm0,c2,ds,bM]
    dsimp only
    rw[app1 (by omega) rfl,ds,app1 (by omega) rfl,ds,wr' (by omega) (by omega)]
    refine⟨_,rfl,by omega,?_,λi hi=>?_⟩
    · rw[hE];rfl
    · by_cases e:i=j
      · subst e;exact hlt
      · exact hj i (by omega)
  · have hle:(itM d n m k P g pk j).1.length=j:=by
     have hge:j<=(itM d n m k P g pk j).1.length:=by
      cases j with
      | zero=>omega
      | succ j=>
       have a:=hj j (by omega)
       have b:=pz d n m k P g pk (show j<=j+1 by omega)
       omega
     omega
    rw[decide_eq_false (by omega),cond_false]
    exact⟨_,rfl,j,rfl,hj,hle.symm⟩) (2 ^ 64) 0 ([0],0,[],[]) (by omega) ⟨rfl,λi hi=>absurd hi (Nat.not_lt_zero i)⟩ (by omega)
 obtain⟨o',w1',w2'⟩:=cu (f:=fE p d g P pk) (λj (s:List Int×Int×List (List Int)×List (List Int))=>s=((itM d n m k P g pk j).1,(j:Int),(itM d n m k P g pk j).2.1,(itM d n m k P g pk j).2.2)/\(∀i,i<j->i<(itM d n m k P g pk i).1.length)/\(itM d n m k P g pk j).1.length<=48)
  (λr=>r=(⟨[],[]⟩,false)/\∃j:Nat,(∀i,i<j->i<(itM d n m k P g pk i).1.length)/\48<(itM d n m k P g pk j).1.length)
  (λs=>∃j:Nat,s=((itM d n m k P g pk j).1,(j:Int),(itM d n m k P g pk j).2.1,(itM d n m k P g pk j).2.2)/\(∀i,i<j->i<(itM d n m k P g pk i).1.length)/\j=(itM d n m k P g pk j).1.length/\(itM d n m k P g pk j).1.length<=48) 256 (λj s ⟨e,hj,hl48⟩=>by
  subst e
  have hM:=kQ h h0 j hj
  have e1:=hM.nxl
  have e2:=hM.oul
  unfold fE
  dsimp only
  by_cases hlt:j<(itM d n m k P g pk j).1.length
  · obtain⟨x,v,hx,hv,⟨e,c1⟩,_,hE⟩:=hstep j hj hlt
    have hj1:∀i,i<j+1->i<(itM d n m k P g pk i).1.length:=λi hi=>by
     by_cases e:i=j
     · subst e;exact hlt
     · exact hj i (by omega)
    rw[decide_eq_true (show(j:Int)<((itM d n m k P g pk j).1.length:Int) by omega),cond_true,bH,hx,ds,hv,ds,c1,ds,bM]
    dsimp only
    by_cases hbig:(48:Int)<((itM d n m k P g pk (j+1)).1.length:Int)
    · rw[decide_eq_true hbig,cond_true]
      exact⟨_,rfl,rfl,j+1,hj1,by omega⟩
    · rw[decide_eq_false hbig,cond_false,app1 (by omega) rfl,ds,app1 (by omega) rfl,ds,wr' (by omega) (by omega)]
      refine⟨_,rfl,by omega,?_,hj1,by omega⟩
      rw[hE];rfl
  · have hle:(itM d n m k P g pk j).1.length=j:=by
     have hge:j<=(itM d n m k P g pk j).1.length:=by
      cases j with
      | zero=>omega
      | succ j=>
       have a:=hj j (by omega)
       have b:=pz d n m k P g pk (show j<=j+1 by omega)
       omega
     omega
    rw[decide_eq_false (by omega),cond_false]
    exact⟨_,rfl,j,rfl,hj,hle.symm,hl48⟩) (2 ^ 64) 0 ([0],0,[],[]) (by omega) ⟨rfl,λi hi=>absurd hi (Nat.not_lt_zero i),by show[(0:Int)].length<=48;simp⟩ (by omega)
 match o,w2 with
 | .inr s,⟨j,e,j1,j2⟩=>
  subst e
  refine⟨j,j1,j2,w1,?_⟩
  match o',w2' with
  | .inl r,⟨e,j',k1,k2⟩=>
   have hjj:j'<=j:=Classical.byContradiction λhn=>by
    have:=k1 j (by omega)
    omega
   have:=pz d n m k P g pk hjj
   rw[if_neg (by omega),w1',e]
  | .inr s',⟨j',e,k1,k2,k3⟩=>
   have hjj:j=j':=by
    by_cases c:j<j'
    · have:=k1 j c;omega
    · by_cases c':j'<j
      · have:=j1 j' c';omega
      · omega
   subst hjj
   rw[if_pos k3,w1',e]
end
theorem pG (p:Sig){cs:List Clause}(hb:∀c∈cs,Clause.bd c):(fl p cs=some (⟨[],[]⟩,false)/\eh p cs=some (⟨[],[]⟩,false)) \/
 ∃(N m k:Nat) (F:List Int) (Nx Ou:List (List Int)) (Q:Int->Prop),Mkr N m k Q F F.length Nx Ou/\F.length<=48/\sigOk p=true/\pw p.In=(m:Int)/\pw p.Out=(k:Int)/\fl p cs=some (⟨Nx,Ou⟩,true)/\eh p cs=some (⟨Nx,Ou⟩,true):=by
 unfold fl eh
 rcases setup p hb with ⟨h1,h2⟩ | ⟨d,A,h1,h2,S2,⟨r1,r2⟩ | ⟨n,m,k,P,g,W,pk,S⟩⟩
 · left
   rw[h1,h2]
   exact⟨rfl,rfl⟩
 · left
   simp only[h1,h2,S2.sC,S2.iC,r1,r2,ds,Bool.not_true,cond_false]
   exact⟨rfl,rfl⟩
 · simp only[h1,h2,S.sC,S.iC,S.sR,S.iR,S.iW,S.won,S.sS,S.iS,ds,Bool.not_true,cond_false]
   cases hw:wB W 0 with
   | true=>
    left
    exact⟨rfl,rfl⟩
   | false=>
    obtain⟨j,j1,j2,w1,w2⟩:=ui (wn:=wonL g.Prio.length W) S.sig S.det S2.pb S.cx S.im S.ok hw
    have hM:=kQ S.cx hw j j1
    have hS:kD p d g P pk=some (if(itM d n m k P g pk j).1.length<=48 then(⟨(itM d n m k P g pk j).2.1,(itM d n m k P g pk j).2.2⟩,true) else(⟨[],[]⟩,false)):=by
     unfold kD
     rw[w2,ds]
     by_cases c:(itM d n m k P g pk j).1.length<=48
     · rw[if_pos c,if_pos c];rfl
     · rw[if_neg c,if_neg c];rfl
    rw[hS,w1]
    by_cases c:(itM d n m k P g pk j).1.length<=48
    · right
      rw[if_pos c]
      refine⟨P.length,m,k,(itM d n m k P g pk j).1,_,_,(λx=>wB W x=false/\atP P x<(n:Int)),?_,c,S.sig,S.im,S.ok,rfl,?_⟩
      · rw[← j2];exact hM
      · rw[ds,bM]
        dsimp only
        show(bif (b2i false !=0) then _ else _)=_
        rw[decide_eq_false (by omega)];rfl
    · left
      rw[if_neg c]
      refine⟨rfl,?_⟩
      rw[ds,bM]
      dsimp only
      show(bif (b2i false !=0) then _ else _)=_
      rw[decide_eq_true (by omega)];rfl
theorem FnExactMachineOf_law {p0:Sig}(ok0:Sig.ok p0){p1:(List Clause)}(ok1:(okS Clause.ok) p1):dh p0 p1=some true:=
 FnExactMachineOf_of ok0 ok1 λh0=>by
  rcases pG p0 h0.2 with ⟨h1,h2⟩ | ⟨N,m,k,F,Nx,Ou,Q,hM,hF,hs,hm,hk,h1,h2⟩
  · exact⟨_,_,h1,h2,by decide,by decide⟩
  · have hm4:=lF p0.In
    have e1:=hM.nxl
    have e2:=hM.oul
    refine⟨_,_,h1,h2,?_,?_⟩
    · have:=pB (c:=ctL (λ_=>1)) (N:=48) (M:=4) (xs:=Nx) (by omega) (λx hx=>by rw[qH];have:=(hM.nxr x hx).1;omega)
      dsimp only
      omega
    · have:=pB (c:=ctL (λ_=>1)) (N:=48) (M:=4) (xs:=Ou) (by omega) (λx hx=>by rw[qH];have:=(hM.our x hx).1;omega)
      dsimp only
      omega
end Go.Proofs.YtpcjbkgbnoocaaaGreat
