/- A field of an element with memory is stored; two slices behind a plain field are taken out and put back. -/
import Derived.Test.YtpcjbkgbnoocaaaGreatFbMO
set_option linter.unusedVariables false
set_option linter.unusedSimpArgs false
open List renaming length_take → xo
namespace Go.Wk
open Go
theorem Hole.setAt {α:Type}{E:Ep α}{T:TypeId}{κ:Col}{w:World}(q:Nat) (l:List Nat){a:Option Addr}{c:Nat}{xs zs:List α}{cs cs0:List Value}{e:α}{ix:Int}(hrel:E.rel (Zl κ w [0]) (Zl κ w l) w cs e) (hql:nin l q=true) (h0:nin (q::l) 0=true)
 (hown:Hole E T κ w q a c xs ix cs0) (hset:setI xs ix e=some zs):
 ∃g of,∃cur:Array Value,a=some ⟨g,of,none⟩/\w.heap[g]? =some (.cells cur T (0,0))/\of+ix.toNat * E.size+E.size<=cur.size /\
  ∃κ',Stp (q::l) κ w κ' (w.setRow g (cur.toList.take (of+ix.toNat * E.size)++cs++cur.toList.drop (of+ix.toNat * E.size+E.size)).toArray) /\
   Oc E T κ' (w.setRow g (cur.toList.take (of+ix.toNat * E.size)++cs++cur.toList.drop (of+ix.toNat * E.size+E.size)).toArray) q a c zs:=by
 obtain⟨i0,i1,i2,i3⟩:=kh hset
 obtain⟨_,cells,hrow,hbk,hlst⟩:=hown
 rcases hrow.2 with ⟨rfl,h4,rfl⟩ | ⟨g,of,cur,rfl,hgg,hkc,hcm,hcsz,htake⟩
 · omega
 · have hit:ix.toNat<xs.length:=by omega
   have hmul:ix.toNat * E.size+E.size<=xs.length * E.size:=by
    have:=Nat.mul_le_mul_right E.size (show ix.toNat+1<=xs.length from hit)
    rwa [Nat.add_mul,Nat.one_mul]at this
   have hmul2:xs.length * E.size<=c * E.size:=Nat.mul_le_mul_right _ hkc
   have hq:κ g=q:=by simpa using (hbk g rfl).2
   have ht:Tch (g+1) w (w.setRow g (cur.toList.take (of+ix.toNat * E.size)++cs++cur.toList.drop (of+ix.toNat * E.size+E.size)).toArray):=Tch.setRow w g _
   have hst:Stp (q::l) κ w (rlc κ (q::l) w.heap.size q) (w.setRow g (cur.toList.take (of+ix.toNat * E.size)++cs++cur.toList.drop (of+ix.toNat * E.size+E.size)).toArray):=Stp.rlT _ _ ht λb hb=>by
    have:b=g:=by omega
    rw[this,hq];simp
   refine⟨g,of,cur,rfl,hgg,by omega,_,hst,cells.take (ix.toNat * E.size)++cs++cells.drop (ix.toNat * E.size+E.size),?_,λb hb=>?_,?_⟩
   · have hcl:=hrow.1
     have hcs':=E.len hrel
     rw[i3]
     clear hset i2 hst ht hlst
     generalize ix.toNat * E.size=p at *
     refine⟨?_,.inr ⟨g,of,_,rfl,setRow_heap w g cur _ T _ hgg,by omega,hcm,?_,?_⟩⟩
     · simp only[List.length_append,xo,List.length_drop,hcl,hcs'];omega
     · simp only[List.size_toArray,List.length_append,xo,List.length_drop,Array.length_toList,hcs'];omega
     · rw[← htake]
       generalize xs.length * E.size=z at *
       have hlc:cur.toList.length=cur.size:=by simp
       generalize cur.toList=cl at *
       simp only[]
       rw[List.append_assoc,List.drop_append,List.drop_take,xo,show of-min (of+p) cl.length=0 from by omega,List.drop_zero,show of+p-of=p from by omega,List.take_append,xo,List.take_take,List.length_drop,
        show min z p=p from by omega,show min p (cl.length-of)=p from by omega,List.take_append,List.take_of_length_le (l:=cs) (by omega),List.take_drop,List.append_assoc,hcs',List.drop_take,show of+p-of=p from by omega,List.take_take,show min p z=p from by omega,List.drop_take,List.drop_drop,show of+(p+E.size)=of+p+E.size from by omega,show z-(p+E.size)=z-p-E.size from by omega]
   · have:b=g:=by simpa [nb] using hb
     subst this
     exact⟨by simpa using hrow.lt rfl,by rw[fI (by rw[hq];simp)];simp⟩
   · rw[i2]
     have hF:=Zl.st hst (nin1 h0)
     have hg1:∀b,κ b∈l->b≠g:=λb hb e=>by rw[e,hq]at hb;exact cI.1 hql hb
     have hrel':=E.st (S':=Zl κ w l) hF (λb hb=>⟨hb,ht.block b ⟨hb.1,by have:=hg1 b hb.2;omega⟩⟩) hrel
     have hlst':=hlst.st (S':=λb=>Zl κ w [q] b/\b+1≠nb (some ⟨g,of,none⟩)) hF λb hb=>⟨hb,ht.block b ⟨hb.1.1,hb.2⟩⟩
     have hA:∀b,(Zl κ w [q] b/\b+1≠nb (some ⟨g,of,none⟩))->rlc κ (q::l) w.heap.size q b∈[q]:=λb hb=>by
      have h1:κ b=q:=by simpa using hb.1.2
      rw[fI (by rw[h1];simp)];simp
     have hB:∀b,Zl κ w l b->rlc κ (q::l) w.heap.size q b∈[q]:=λb hb=>by
      rw[fI (List.mem_cons_of_mem _ hb.2)];simp
     refine LstH.put hrel' hlst' (λb hb=>⟨⟨⟨by simpa using hb.1.1,hA b hb⟩,hb.2⟩,λh=>?_⟩) (λb hb=>⟨⟨by simpa using hb.1,hB b hb⟩,?_⟩)
     · have h1:κ b=q:=by simpa using hb.1.2
       exact cI.1 hql (h1 ▸ h.2)
     · have:=hg1 b hb.2
       simp only[nb];omega
theorem WO.stG {P:Program}{n:Nat}{ops:Array Oper}{C:World->Prop}{N:Act->World->Prop}{r:List (Nat×Nat)}{L:Env}{κ:Col}{w:World}{i:Nat}{o:Oper}{α:Type}{E:Ep α}(q j off:Nat) (ho:ops[i]? =some o) (hg:gd ops L o=some true) (hd:o.dst=none){t T:TypeId}{x y:Operand}{a:Option Addr}{c k sz:Nat}{xs zs:List α}{v:Value}{vc:List Value}{e e':α}{ix:Int}
 (hop:o.op= .store t x y) (hx:opd L x=some (.pointer (some ((aAt a k).add off)))) (hk:k=ix.toNat * E.size) (hy:opd L y=some v) (hcs:v.cells=vc.toArray) (hz:∀w,(sizeOf t).run P w= .ok sz w) (hl:vc.length=sz) (h1:(vc.all λu=>u.oneCell')=true)
 (he:idx xs ix=some e) (hup:∀{F S:Nat->Prop} {w:World} {cs:List Value},E.rel F S w cs e->E.rel F S w (cs.take off++vc++cs.drop (off+sz)) e') (hfit:Nat.ble (off+sz) E.size=true) (h0:nin [q,j] 0=true) (hqj:Nat.beq q j=false)
 (hown:Oc E T κ w q a c xs) (hset:setI xs ix e'=some zs)
 (kk:∀w' κ',Stp [q,q,j] κ w κ' w'->Oc E T κ' w' q a c zs->C w'/\WO P n ops C N r L w'):WO P n ops C N ((i,1)::r) L w:=
 WO.ln ho hg hd λact ha=>by
  subst hk
  have hq0:Nat.beq 0 q=false:=by
   have h3:=cI.1 h0
   cases e:Nat.beq 0 q with
   | false=>rfl
   | true=>exact absurd (by rw[← Nat.eq_of_beq_eq_true e];simp) h3
  obtain⟨κ1,ec,s1,hr,hh,hc⟩:=Ow.borrowE hown he j hqj hq0
  obtain⟨g,of,cur,rfl,hgg,hfit2,κ',hst,hoc⟩:=Hole.setAt q [j] (hup hr) (lr (lh hqj).symm) h0 hh hset
  have hec:ec.length=E.size:=E.len hr
  have hpatch:=th cur.toList ec vc (of+ix.toNat * E.size) off sz E.size (by simpa using hfit2) (Nat.ble_eq.mp hfit) hec λm v hv=>by
   have:=hc m v hv
   rw[show aAt (some ⟨g,of,none⟩) (ix.toNat * E.size)=(⟨g,of,none⟩:Addr).add (ix.toNat * E.size) from rfl,addb,addb,cell_of_row w g _ cur T (0,0) hgg]at this
   simpa using this
  have haddr:(aAt (some ⟨g,of,none⟩) (ix.toNat * E.size)).add off=⟨g,of+ix.toNat * E.size+off,none⟩:=by
   show((⟨g,of,none⟩:Addr).add _).add _=_
   rw[addb,addb]
  have hrun:=kp (P:=P) (t:=t) (off:=of+ix.toNat * E.size+off) hgg hz hcs hl (λu hu=>List.all_eq_true.1 h1 u hu) (by have:=Nat.ble_eq.mp hfit;omega)
  unfold Runs
  have:(execOp act.eval o).run P w= .ok .skip (w.setRow g (cur.toList.take (of+ix.toNat * E.size)++(ec.take off++vc++ec.drop (off+sz))++cur.toList.drop (of+ix.toNat * E.size+E.size)).toArray):=by
   simp only[execOp,hop,ha.eval hx,ha.eval hy,haddr,Sem.run_bind,hrun,Result.andThen_ok,Sem.run_pure,hpatch]
  rw[this]
  exact kk _ _ (s1.tr hst) hoc
theorem we {β:Type}{k:IntKind}{B:Ep β}{F S:Nat->Prop}{w:World}{cs:List Value}{x y:Int}{b:β}(h:(Ep.pair (Ep.int k) B).rel F S w cs (x,b)):(Ep.pair (Ep.int k) B).rel F S w (cs.take 0++[.int k y]++cs.drop (0+1)) (y,b):=by
 obtain⟨c1,c2,S1,S2,e,d1,d2,r1,r2⟩:=h
 have e1:c1=[.int k x]:=r1
 subst e1 e
 exact⟨[.int k y],c2,S1,S2,rfl,d1,d2,rfl,r2⟩
theorem tJ {β:Type}{k:IntKind}{B:Ep β}{F S:Nat->Prop}{w:World}{cs:List Value}{x:Int}{b:β}(h:(Ep.pair (Ep.int k) B).rel F S w cs (x,b)):∃rest,cs= .int k x::rest/\B.rel F S w rest b:=by
 obtain⟨c1,c2,S1,S2,e,d1,d2,r1,r2⟩:=h
 have e1:c1=[.int k x]:=r1
 subst e1 e
 exact⟨c2,rfl,B.st (λb hb=>⟨hb,rfl⟩) (λb hb=>⟨d2 b hb,rfl⟩) r2⟩
theorem uL {β:Type}{k:IntKind}{B:Ep β}{F S:Nat->Prop}{w:World}{rest:List Value}{x:Int}{b:β}(h:B.rel F S w rest b):(Ep.pair (Ep.int k) B).rel F S w (.int k x::rest) (x,b):=
 ⟨[.int k x],rest,λ_=>False,S,rfl,λ_ h=>h.elim,λ_ h=>h,rfl,h⟩
section
variable {α β γ:Type}{E:Ep α}{E1:Ep β}{E2:Ep γ}{T T1 T2:TypeId}{κ:Col}{w:World}{i:Nat}{a a1 a2:Option Addr}{c c1 c2:Nat}{xs:List α}{ix:Int}
theorem Ow.borrowQ {f:α->List β×List γ}{v0:Value}{x:α}(hE:∀{F S:Nat->Prop}{w:World}{cs:List Value},E.rel F S w cs x->∃rest,cs=v0::rest/\(Ep.pair (Ep.own E1 T1) (Ep.own E2 T2)).rel F S w rest (f x)) (hsz:E.size=3)
 (h:Oc E T κ w i a c xs) (hx:idx xs ix=some x) (hc:∀(k:Nat) v,([v0,.slice a1 (f x).1.length c1,.slice a2 (f x).2.length c2]:List Value)[k]? =some v->w.cell? ((aAt a (ix.toNat * 3)).add k)=some v)
 (j1 j2:Nat) (h1:Nat.beq i j1=false) (h3:Nat.beq j1 j2=false) (h4:Nat.beq 0 i=false) (h5:Nat.beq 0 j1=false):
 ∃κ',Stp [i,j1] κ w κ' w/\Oc E1 T1 κ' w j1 a1 c1 (f x).1/\Oc E2 T2 κ' w j2 a2 c2 (f x).2/\Hole E T κ' w i a c xs ix [v0,.slice a1 (f x).1.length c1,.slice a2 (f x).2.length c2]:=by
 classical
 obtain⟨κ1,cs,s1,hr,hh,hcs⟩:=h.borrowE hx j1 h1 h4
 obtain⟨rest,rfl,l1,l2,S1,S2,e,d1,d2,⟨b1,u1,e1,o1⟩,⟨b2,u2,e2,o2⟩⟩:=hE hr
 subst e1 e2 e
 have n1:=lh h1
 have n3:=lh h3
 have n5:=lh h5
 rw[hsz]at hcs
 have k0:=hcs 1 _ rfl
 have k1:=hcs 2 _ rfl
 rw[hc 1 _ rfl]at k0
 rw[hc 2 _ rfl]at k1
 simp only[Option.some.injEq,Value.slice.injEq,true_and]at k0 k1
 obtain⟨rfl,rfl⟩:=k0
 obtain⟨rfl,rfl⟩:=k1
 let κ':Col:=λb=>if S2 b then j2 else κ1 b
 have hy:∀b,S2 b->κ' b=j2:=λb hb=>if_pos hb
 have hn:∀b,¬S2 b->κ' b=κ1 b:=λb hb=>if_neg hb
 have hj:∀b,S2 b->κ1 b=j1:=λb hb=>by simpa using (d2 b hb).2
 have st:Stp [j1] κ1 w κ' w:=⟨rfl,rfl,rfl,Nat.le_refl _,λb _ hb=>⟨hn b λh=>hb (by rw[hj b h];simp),rfl⟩⟩
 have hF:=Zl.st st (nin1 (lr λe=>n5 e.symm))
 exact⟨κ',s1.tr st,o1.st hF (λb hb=>⟨⟨(d1 b hb).1.1,by rw[hn b (d1 b hb).2];exact(d1 b hb).1.2⟩,rfl⟩),o2.st hF (λb hb=>⟨⟨(d2 b hb).1,by rw[hy b hb];simp⟩,rfl⟩),hh.stp st (lr λe=>n5 e.symm) (lr λe=>n1 e.symm)⟩
theorem Ow.unborrowQ {f:α->List β×List γ}{v0:Value}{y:α}(hE:∀{F S:Nat->Prop}{w:World}{rest:List Value},(Ep.pair (Ep.own E1 T1) (Ep.own E2 T2)).rel F S w rest (f y)->E.rel F S w (v0::rest) y)
 {n1 n2:Nat} {zs:List α} {j1 j2:Nat} (h:Hole E T κ w i a c xs ix [v0,.slice a1 n1 c1,.slice a2 n2 c2]) (g1:Oc E1 T1 κ w j1 a1 c1 (f y).1) (g2:Oc E2 T2 κ w j2 a2 c2 (f y).2) (hn1:n1=(f y).1.length) (hn2:n2=(f y).2.length)
 (h1:Nat.beq i j1=false) (h2:Nat.beq i j2=false) (h3:Nat.beq j1 j2=false) (h5:Nat.beq 0 j1=false) (h6:Nat.beq 0 j2=false) (hs:setI xs ix y=some zs):
 ∃κ',Stp [j2,j1] κ w κ' w/\Oc E T κ' w i a c zs:=by
 have n1':=lh h1
 have n2':=lh h2
 have n3:=lh h3
 have n5:=lh h5
 have n6:=lh h6
 let κ1:Col:=λb=>bif Nat.beq (κ b) j2 then j1 else κ b
 have hjj:∀b,κ b=j2->κ1 b=j1:=λb hb=>by show(bif Nat.beq (κ b) j2 then j1 else κ b)=j1;rw[hb,Nat.beq_refl];rfl
 have hn:∀b,κ b≠j2->κ1 b=κ b:=λb hb=>by
  show(bif Nat.beq (κ b) j2 then j1 else κ b)=κ b
  cases e:Nat.beq (κ b) j2 with
  | false=>rfl
  | true=>exact absurd (Nat.eq_of_beq_eq_true e) hb
 have st:Stp [j2] κ w κ1 w:=⟨rfl,rfl,rfl,Nat.le_refl _,λb _ hb=>⟨hn b λh=>hb (by rw[h];simp),rfl⟩⟩
 have hF:=Zl.st st (nin1 (lr λe=>n6 e.symm))
 have hh:=h.stp st (lr λe=>n6 e.symm) (lr λe=>n2' e.symm)
 have hrel:E.rel (Zl κ1 w [0]) (Zl κ1 w [j1]) w [v0,.slice a1 n1 c1,.slice a2 n2 c2] y:=hE ⟨[.slice a1 n1 c1],[.slice a2 n2 c2],Zl κ w [j1],Zl κ w [j2],rfl,λb hb=>by
  have e:κ b=j1:=by simpa using hb.2
  exact⟨⟨hb.1,by rw[hn b (by rw[e];exact n3),e];simp⟩,λh=>by
   have e':κ b=j2:=by simpa using h.2
   exact n3 (e.symm.trans e')⟩,λb hb=>⟨hb.1,by rw[hjj b (by simpa using hb.2)];simp⟩,⟨a1,c1,by rw[hn1],g1.st hF λb hb=>⟨hb,rfl⟩⟩,⟨a2,c2,by rw[hn2],g2.st hF λb hb=>⟨hb,rfl⟩⟩⟩
 obtain⟨κ',s2,h7⟩:=hh.back hrel h1 h5 hs
 exact⟨κ',st.tr s2,h7⟩
end
end Go.Wk
