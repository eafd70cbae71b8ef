/- The structs of the program as data. -/
import Derived.Test.YtgbippnfaoedmaaGreatDoorFbBG
import Derived.Test.YtgbippnfaoedmaaGreatDoorMapSBG
import Derived.Test.YtgbippnfaoedmaaGreatDoorNilBG
import Derived.Test.YtgbippnfaoedmaaGreatDoorTextBG
import Derived.Test.YtgbippnfaoedmaaGreatDoorProg
set_option linter.unusedVariables false
set_option linter.unusedSimpArgs false
open Go.Wk.Rp renaming iso → AU, pair → AV, sl → AW
namespace Go.Proofs.YtgbippnfaoedmaaGreatDoor
open Go Go.Wk Go.Proofs
abbrev VI:=List Int
abbrev VB:=List Bool
abbrev VV:=List VI
abbrev Ri:=Rp.int .i64
abbrev Rs:=AW Ri
def ec:List ByteArray:=[ByteArray.mk #[101,118,101,110],ByteArray.mk #[111,100,100]]
def nN:List ByteArray:=[ByteArray.mk #[97,108,119,97,121,115],ByteArray.mk #[110,101,120,116],ByteArray.mk #[97,110,115,119,101,114],ByteArray.mk #[111,102,116,101,110],ByteArray.mk #[115,116,97,121,115],ByteArray.mk #[111,110,99,101],ByteArray.mk #[102,97,105,114]]
structure Arena where
 Owner:VI
 Next:VV
def Arena.rp:Rp Arena:=AU (AV Rs (AW Rs)) (λa=>(a.Owner,a.Next))
theorem Arena.un {S:Nat->Prop}{w:World}{e:List Value}{x:Arena}(h:Arena.rp.rel S w e x):∃a c,∃b d,e=[.slice a x.Owner.length c,.slice b x.Next.length d]/\Sl Ri S w a c x.Owner/\Sl Rs S w b d x.Next:=by
 obtain⟨_,_,rfl,⟨a,c,rfl,f⟩,⟨b,d,rfl,g⟩⟩:=h
 exact⟨a,c,b,d,rfl,f,g⟩
structure Parity where
 Arena:Arena
 Prio:VI
def Parity.rp:Rp Parity:=AU (AV Arena.rp Rs) (λa=>(a.Arena,a.Prio))
theorem Parity.un {S:Nat->Prop}{w:World}{g:List Value}{x:Parity}(h:Parity.rp.rel S w g x):∃a d,∃b e,∃c f,g=[.slice a x.Arena.Owner.length d,.slice b x.Arena.Next.length e,.slice c x.Prio.length f]/\Sl Ri S w a d x.Arena.Owner/\Sl Rs S w b e x.Arena.Next/\Sl Ri S w c f x.Prio:=by
 obtain⟨_,_,rfl,⟨_,_,rfl,⟨a,d,rfl,i⟩,⟨b,e,rfl,j⟩⟩,⟨c,f,rfl,k⟩⟩:=h
 exact⟨a,d,b,e,c,f,rfl,i,j,k⟩
structure Answer where
 Won:VI
 Plan:VI
def Answer.rp:Rp Answer:=AU (AV Rs Rs) (λa=>(a.Won,a.Plan))
theorem Answer.un {S:Nat->Prop}{w:World}{e:List Value}{x:Answer}(h:Answer.rp.rel S w e x):∃a c,∃b d,e=[.slice a x.Won.length c,.slice b x.Plan.length d]/\Sl Ri S w a c x.Won/\Sl Ri S w b d x.Plan:=by
 obtain⟨_,_,rfl,⟨a,c,rfl,f⟩,⟨b,d,rfl,g⟩⟩:=h
 exact⟨a,c,b,d,rfl,f,g⟩
structure l7Game where
 owner:VI
 prio:VI
 next:VV
 prev:VV
 pick:VI
def l7Game.rp:Rp l7Game:=AU (AV Rs (AV Rs (AV (AW Rs) (AV (AW Rs) Rs)))) (λa=>(a.owner,a.prio,a.next,a.prev,a.pick))
theorem l7Game.un {S:Nat->Prop}{w:World}{l:List Value}{x:l7Game}(h:l7Game.rp.rel S w l x):∃a f,∃b g,∃c i,∃d j,∃e k,l=[.slice a x.owner.length f,.slice b x.prio.length g,.slice c x.next.length i,.slice d x.prev.length j,.slice e x.pick.length k]/\Sl Ri S w a f x.owner/\Sl Ri S w b g x.prio/\Sl Rs S w c i x.next/\Sl Rs S w d j x.prev/\Sl Ri S w e k x.pick:=by
 obtain⟨_,_,rfl,⟨a,f,rfl,m⟩,⟨_,_,rfl,⟨b,g,rfl,n⟩,⟨_,_,rfl,⟨c,i,rfl,o⟩,⟨_,_,rfl,⟨d,j,rfl,p⟩,⟨e,k,rfl,q⟩⟩⟩⟩⟩:=h
 exact⟨a,f,b,g,c,i,d,j,e,k,rfl,m,n,o,p,q⟩
structure Sig where
 In:Int
 Out:Int
def Sig.rp:Rp Sig:=AU (AV Ri Ri) (λa=>(a.In,a.Out))
theorem Sig.un {S:Nat->Prop}{w:World}{a:List Value}{x:Sig}(h:Sig.rp.rel S w a x):a=[.int .i64 x.In,.int .i64 x.Out]:=by
 obtain⟨_,_,rfl,rfl,rfl⟩:=h
 exact rfl
structure Clause where
 Kind:Int
 A:VI
 B:VI
def Clause.rp:Rp Clause:=AU (AV Ri (AV Rs Rs)) (λa=>(a.Kind,a.A,a.B))
theorem Clause.un {S:Nat->Prop}{w:World}{e:List Value}{x:Clause}(h:Clause.rp.rel S w e x):∃a c,∃b d,e=[.int .i64 x.Kind,.slice a x.A.length c,.slice b x.B.length d]/\Sl Ri S w a c x.A/\Sl Ri S w b d x.B:=by
 obtain⟨_,_,rfl,rfl,⟨_,_,rfl,⟨a,c,rfl,f⟩,⟨b,d,rfl,g⟩⟩⟩:=h
 exact⟨a,c,b,d,rfl,f,g⟩
structure Pair where
 Ask:VI
 Give:VI
def Pair.rp:Rp Pair:=AU (AV Rs Rs) (λa=>(a.Ask,a.Give))
theorem Pair.un {S:Nat->Prop}{w:World}{e:List Value}{x:Pair}(h:Pair.rp.rel S w e x):∃a c,∃b d,e=[.slice a x.Ask.length c,.slice b x.Give.length d]/\Sl Ri S w a c x.Ask/\Sl Ri S w b d x.Give:=by
 obtain⟨_,_,rfl,⟨a,c,rfl,f⟩,⟨b,d,rfl,g⟩⟩:=h
 exact⟨a,c,b,d,rfl,f,g⟩
structure Det where
 Next:VV
 Pairs:(List Pair)
def Det.rp:Rp Det:=AU (AV (AW Rs) (AW Pair.rp)) (λa=>(a.Next,a.Pairs))
theorem Det.un {S:Nat->Prop}{w:World}{e:List Value}{x:Det}(h:Det.rp.rel S w e x):∃a c,∃b d,e=[.slice a x.Next.length c,.slice b x.Pairs.length d]/\Sl Rs S w a c x.Next/\Sl Pair.rp S w b d x.Pairs:=by
 obtain⟨_,_,rfl,⟨a,c,rfl,f⟩,⟨b,d,rfl,g⟩⟩:=h
 exact⟨a,c,b,d,rfl,f,g⟩
structure Machine where
 Next:VV
 Out:VV
def Machine.rp:Rp Machine:=AU (AV (AW Rs) (AW Rs)) (λa=>(a.Next,a.Out))
theorem Machine.un {S:Nat->Prop}{w:World}{e:List Value}{x:Machine}(h:Machine.rp.rel S w e x):∃a c,∃b d,e=[.slice a x.Next.length c,.slice b x.Out.length d]/\Sl Rs S w a c x.Next/\Sl Rs S w b d x.Out:=by
 obtain⟨_,_,rfl,⟨a,c,rfl,f⟩,⟨b,d,rfl,g⟩⟩:=h
 exact⟨a,c,b,d,rfl,f,g⟩
structure Rival where
 In:VI
 Next:VV
def Rival.rp:Rp Rival:=AU (AV Rs (AW Rs)) (λa=>(a.In,a.Next))
theorem Rival.un {S:Nat->Prop}{w:World}{e:List Value}{x:Rival}(h:Rival.rp.rel S w e x):∃a c,∃b d,e=[.slice a x.In.length c,.slice b x.Next.length d]/\Sl Ri S w a c x.In/\Sl Rs S w b d x.Next:=by
 obtain⟨_,_,rfl,⟨a,c,rfl,f⟩,⟨b,d,rfl,g⟩⟩:=h
 exact⟨a,c,b,d,rfl,f,g⟩
structure Word where
 Stem:VI
 Loop:VI
def Word.rp:Rp Word:=AU (AV Rs Rs) (λa=>(a.Stem,a.Loop))
theorem Word.un {S:Nat->Prop}{w:World}{e:List Value}{x:Word}(h:Word.rp.rel S w e x):∃a c,∃b d,e=[.slice a x.Stem.length c,.slice b x.Loop.length d]/\Sl Ri S w a c x.Stem/\Sl Ri S w b d x.Loop:=by
 obtain⟨_,_,rfl,⟨a,c,rfl,f⟩,⟨b,d,rfl,g⟩⟩:=h
 exact⟨a,c,b,d,rfl,f,g⟩
structure Edit where
 Kind:Int
 V:Int
 N:Int
def Edit.rp:Rp Edit:=AU (AV Ri (AV Ri Ri)) (λa=>(a.Kind,a.V,a.N))
theorem Edit.un {S:Nat->Prop}{w:World}{a:List Value}{x:Edit}(h:Edit.rp.rel S w a x):a=[.int .i64 x.Kind,.int .i64 x.V,.int .i64 x.N]:=by
 obtain⟨_,_,rfl,rfl,⟨_,_,rfl,rfl,rfl⟩⟩:=h
 exact rfl
structure Place where
 At:Int
 Record:VI
def Place.rp:Rp Place:=AU (AV Ri Rs) (λa=>(a.At,a.Record))
theorem Place.un {S:Nat->Prop}{w:World}{c:List Value}{x:Place}(h:Place.rp.rel S w c x):∃a b,c=[.int .i64 x.At,.slice a x.Record.length b]/\Sl Ri S w a b x.Record:=by
 obtain⟨_,_,rfl,rfl,⟨a,b,rfl,d⟩⟩:=h
 exact⟨a,b,rfl,d⟩
structure Worth where
 Head:Int
 Over:VI
 Way:Int
def Worth.rp:Rp Worth:=AU (AV Ri (AV Rs Ri)) (λa=>(a.Head,a.Over,a.Way))
theorem Worth.un {S:Nat->Prop}{w:World}{c:List Value}{x:Worth}(h:Worth.rp.rel S w c x):∃a b,c=[.int .i64 x.Head,.slice a x.Over.length b,.int .i64 x.Way]/\Sl Ri S w a b x.Over:=by
 obtain⟨_,_,rfl,rfl,⟨_,_,rfl,⟨a,b,rfl,d⟩,rfl⟩⟩:=h
 exact⟨a,b,rfl,d⟩
def Worth.ep257:Ep Worth:=Ep.iso (Ep.pair (Ep.int .i64) (Ep.pair (Ep.own (Ep.int .i64) 2) (Ep.int .i64))) (λa=>(a.Head,a.Over,a.Way))
theorem Worth.no257:Worth.ep257.No:=uQ _ (nO (aT _) (nO (ie (aT _) _) (aT _)))
def Worth.nl257:Ep Worth:=Worth.ep257.nl [.int .i64 0,.slice none 0 0,.int .i64 0] (λa=>(a.Head==(-1))) 1 rfl (by simp[Value.oneCell'])
structure Stage where
 Won:VI
 Region:VI
 At:Int
def Stage.rp:Rp Stage:=AU (AV Rs (AV Rs Ri)) (λa=>(a.Won,a.Region,a.At))
theorem Stage.un {S:Nat->Prop}{w:World}{e:List Value}{x:Stage}(h:Stage.rp.rel S w e x):∃a c,∃b d,e=[.slice a x.Won.length c,.slice b x.Region.length d,.int .i64 x.At]/\Sl Ri S w a c x.Won/\Sl Ri S w b d x.Region:=by
 obtain⟨_,_,rfl,⟨a,c,rfl,f⟩,⟨_,_,rfl,⟨b,d,rfl,g⟩,rfl⟩⟩:=h
 exact⟨a,c,b,d,rfl,f,g⟩
def Stage.ep261:Ep Stage:=Ep.iso (Ep.pair (Ep.own (Ep.int .i64) 2) (Ep.pair (Ep.own (Ep.int .i64) 2) (Ep.int .i64))) (λa=>(a.Won,a.Region,a.At))
theorem Stage.no261:Stage.ep261.No:=uQ _ (nO (ie (aT _) _) (nO (ie (aT _) _) (aT _)))
structure Lasso where
 Stem:VI
 Loop:VI
def Lasso.rp:Rp Lasso:=AU (AV Rs Rs) (λa=>(a.Stem,a.Loop))
theorem Lasso.un {S:Nat->Prop}{w:World}{e:List Value}{x:Lasso}(h:Lasso.rp.rel S w e x):∃a c,∃b d,e=[.slice a x.Stem.length c,.slice b x.Loop.length d]/\Sl Ri S w a c x.Stem/\Sl Ri S w b d x.Loop:=by
 obtain⟨_,_,rfl,⟨a,c,rfl,f⟩,⟨b,d,rfl,g⟩⟩:=h
 exact⟨a,c,b,d,rfl,f,g⟩
structure boundsError where
 x:Int
 y:Int
 signed:Bool
 code:Int
def boundsError.rp:Rp boundsError:=AU (AV Ri (AV Ri (AV Rp.bool (Rp.int .u8)))) (λa=>(a.x,a.y,a.signed,a.code))
theorem boundsError.un {S:Nat->Prop}{w:World}{a:List Value}{x:boundsError}(h:boundsError.rp.rel S w a x):a=[.int .i64 x.x,.int .i64 x.y,.bool x.signed,.int .u8 x.code]:=by
 obtain⟨_,_,rfl,rfl,⟨_,_,rfl,rfl,⟨_,_,rfl,rfl,rfl⟩⟩⟩:=h
 exact rfl
structure errorAddressString where
 msg:ByteArray
 addr:Int
def errorAddressString.rp:Rp errorAddressString:=AU (AV Rp.str (Rp.int .u64)) (λa=>(a.msg,a.addr))
theorem errorAddressString.un {S:Nat->Prop}{w:World}{a:List Value}{x:errorAddressString}(h:errorAddressString.rp.rel S w a x):a=[.string x.msg,.int .u64 x.addr]:=by
 obtain⟨_,_,rfl,rfl,rfl⟩:=h
 exact rfl
structure dice where
 b:VI
 i:Int
 h:Int
def dice.rp:Rp dice:=AU (AV (AW (Rp.int .u8)) (AV Ri (Rp.int .u64))) (λa=>(a.b,a.i,a.h))
theorem dice.un {S:Nat->Prop}{w:World}{c:List Value}{x:dice}(h:dice.rp.rel S w c x):∃a b,c=[.slice a x.b.length b,.int .i64 x.i,.int .u64 x.h]/\Sl (Rp.int .u8) S w a b x.b:=by
 obtain⟨_,_,rfl,⟨a,b,rfl,d⟩,⟨_,_,rfl,rfl,rfl⟩⟩:=h
 exact⟨a,b,rfl,d⟩
structure bench where
 sig:Sig
 clauses:(List Clause)
 game:Parity
def bench.rp:Rp bench:=AU (AV Sig.rp (AV (AW Clause.rp) Parity.rp)) (λa=>(a.sig,a.clauses,a.game))
theorem bench.un {S:Nat->Prop}{w:World}{j:List Value}{x:bench}(h:bench.rp.rel S w j x):∃a e,∃b f,∃c g,∃d i,j=[.int .i64 x.sig.In,.int .i64 x.sig.Out,.slice a x.clauses.length e,.slice b x.game.Arena.Owner.length f,.slice c x.game.Arena.Next.length g,.slice d x.game.Prio.length i]/\Sl Clause.rp S w a e x.clauses/\Sl Ri S w b f x.game.Arena.Owner/\Sl Rs S w c g x.game.Arena.Next/\Sl Ri S w d i x.game.Prio:=by
 obtain⟨_,_,rfl,⟨_,_,rfl,rfl,rfl⟩,⟨_,_,rfl,⟨a,e,rfl,k⟩,⟨_,_,rfl,⟨_,_,rfl,⟨b,f,rfl,l⟩,⟨c,g,rfl,m⟩⟩,⟨d,i,rfl,n⟩⟩⟩⟩:=h
 exact⟨a,e,b,f,c,g,d,i,rfl,k,l,m,n⟩
structure watch where
 next:VV
 letters:VV
 pairs:(List Pair)
def watch.rp:Rp watch:=AU (AV (AW Rs) (AV (AW Rs) (AW Pair.rp))) (λa=>(a.next,a.letters,a.pairs))
theorem watch.un {S:Nat->Prop}{w:World}{g:List Value}{x:watch}(h:watch.rp.rel S w g x):∃a d,∃b e,∃c f,g=[.slice a x.next.length d,.slice b x.letters.length e,.slice c x.pairs.length f]/\Sl Rs S w a d x.next/\Sl Rs S w b e x.letters/\Sl Pair.rp S w c f x.pairs:=by
 obtain⟨_,_,rfl,⟨a,d,rfl,i⟩,⟨_,_,rfl,⟨b,e,rfl,j⟩,⟨c,f,rfl,k⟩⟩⟩:=h
 exact⟨a,d,b,e,c,f,rfl,i,j,k⟩
structure solver where
 game:Parity
 preds:VV
def solver.rp:Rp solver:=AU (AV Parity.rp (AW Rs)) (λa=>(a.game,a.preds))
theorem solver.un {S:Nat->Prop}{w:World}{j:List Value}{x:solver}(h:solver.rp.rel S w j x):∃a e,∃b f,∃c g,∃d i,j=[.slice a x.game.Arena.Owner.length e,.slice b x.game.Arena.Next.length f,.slice c x.game.Prio.length g,.slice d x.preds.length i]/\Sl Ri S w a e x.game.Arena.Owner/\Sl Rs S w b f x.game.Arena.Next/\Sl Ri S w c g x.game.Prio/\Sl Rs S w d i x.preds:=by
 obtain⟨_,_,rfl,⟨_,_,rfl,⟨_,_,rfl,⟨a,e,rfl,k⟩,⟨b,f,rfl,l⟩⟩,⟨c,g,rfl,m⟩⟩,⟨d,i,rfl,n⟩⟩:=h
 exact⟨a,e,b,f,c,g,d,i,rfl,k,l,m,n⟩
structure query where
 in0:Int
 who:Int
 d:Int
 mine:Int
 yours:Int
def query.rp:Rp query:=AU (AV Ri (AV Ri (AV Ri (AV Ri Ri)))) (λa=>(a.in0,a.who,a.d,a.mine,a.yours))
theorem query.un {S:Nat->Prop}{w:World}{a:List Value}{x:query}(h:query.rp.rel S w a x):a=[.int .i64 x.in0,.int .i64 x.who,.int .i64 x.d,.int .i64 x.mine,.int .i64 x.yours]:=by
 obtain⟨_,_,rfl,rfl,⟨_,_,rfl,rfl,⟨_,_,rfl,rfl,⟨_,_,rfl,rfl,rfl⟩⟩⟩⟩:=h
 exact rfl
structure asker where
 game:Parity
 known:(List (query×VI))
instance:DecidableEq query:=λa b=>match a,b with
 |⟨a0,a1,a2,a3,a4⟩,⟨b0,b1,b2,b3,b4⟩=>decidable_of_iff (a0=b0/\a1=b1/\a2=b2/\a3=b3/\a4=b4) (by simp)
def kvquery:query->Value:=λa=> .agg #[.int .i64 a.in0,.int .i64 a.who,.int .i64 a.d,.int .i64 a.mine,.int .i64 a.yours]
def kwquery:query->Bool:=λa=>wf5 a.in0 a.who a.d a.mine a.yours
theorem keyEquery:KeyE Tryz.prog 294 kvquery kwquery:=⟨deep_law (m:=2) (by omega) (by kernel_rfl) (by kernel_rfl) (by kernel_rfl),λa h=>xY Tryz.underlying294 (by kernel_rfl) (m:=349) (by kernel_rfl) (by kernel_rfl) rfl (by kernel_rfl) (by kernel_rfl) rfl h,λa g h=>by
 cases a;cases g
 simp only[kvquery,Value.agg.injEq,Array.mk.injEq,List.cons.injEq,Value.int.injEq,true_and,and_true]at h
 obtain⟨b,c,d,e,f⟩:=h
 subst b c d e f
 rfl⟩
theorem aR:Tryz.prog.info? 2=some Tryz.t2:=by kernel_rfl
theorem tQ:Tryz.prog.info? 3=some Tryz.t3:=by kernel_rfl
theorem bZ:Tryz.prog.info? 4=some Tryz.t4:=by kernel_rfl
theorem pv:Tryz.prog.info? 5=some Tryz.t5:=by kernel_rfl
theorem cG:Tryz.prog.info? 9=some Tryz.t9:=by kernel_rfl
theorem br:Tryz.prog.info? 27=some Tryz.t27:=by kernel_rfl
theorem qS:Tryz.prog.info? 257=some Tryz.t257:=by kernel_rfl
theorem kb:Tryz.prog.info? 261=some Tryz.t261:=by kernel_rfl
end Go.Proofs.YtgbippnfaoedmaaGreatDoor
