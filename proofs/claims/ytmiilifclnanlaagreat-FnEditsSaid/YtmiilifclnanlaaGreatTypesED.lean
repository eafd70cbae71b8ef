/- The structs of the program as data. -/
import Derived.Test.YtmiilifclnanlaaGreatFbED
import Derived.Test.YtmiilifclnanlaaGreatProg
set_option linter.unusedVariables false
set_option linter.unusedSimpArgs false
namespace Go.Proofs.YtmiilifclnanlaaGreat
open Go Go.Wk Go.Proofs
structure Arena where
 Owner:(List Int)
 Next:(List (List Int))
def Arena.rp:Rp Arena:=Rp.iso (Rp.pair (Rp.sl (Rp.int .i64)) (Rp.sl (Rp.sl (Rp.int .i64)))) (fun x=>(x.Owner,x.Next))
theorem Arena.un {S:Nat→Prop}{w:World}{cs:List Value}{x:Arena}(h:Arena.rp.rel S w cs x):∃a0 c0,∃a1 c1,cs=[.slice a0 x.Owner.length c0,.slice a1 x.Next.length c1]∧Sl (Rp.int .i64) S w a0 c0 x.Owner∧Sl (Rp.sl (Rp.int .i64)) S w a1 c1 x.Next:=by
 obtain⟨_,_,rfl,⟨a0,c0,rfl,hs0⟩,⟨a1,c1,rfl,hs1⟩⟩:=h
 exact⟨a0,c0,a1,c1,rfl,hs0,hs1⟩
structure Parity where
 Arena:Arena
 Prio:(List Int)
def Parity.rp:Rp Parity:=Rp.iso (Rp.pair Arena.rp (Rp.sl (Rp.int .i64))) (fun x=>(x.Arena,x.Prio))
theorem Parity.un {S:Nat→Prop}{w:World}{cs:List Value}{x:Parity}(h:Parity.rp.rel S w cs x):∃a0 c0,∃a1 c1,∃a2 c2,cs=[.slice a0 x.Arena.Owner.length c0,.slice a1 x.Arena.Next.length c1,.slice a2 x.Prio.length c2]∧Sl (Rp.int .i64) S w a0 c0 x.Arena.Owner∧Sl (Rp.sl (Rp.int .i64)) S w a1 c1 x.Arena.Next∧Sl (Rp.int .i64) S w a2 c2 x.Prio:=by
 obtain⟨_,_,rfl,⟨_,_,rfl,⟨a0,c0,rfl,hs0⟩,⟨a1,c1,rfl,hs1⟩⟩,⟨a2,c2,rfl,hs2⟩⟩:=h
 exact⟨a0,c0,a1,c1,a2,c2,rfl,hs0,hs1,hs2⟩
structure Answer where
 Won:(List Int)
 Plan:(List Int)
def Answer.rp:Rp Answer:=Rp.iso (Rp.pair (Rp.sl (Rp.int .i64)) (Rp.sl (Rp.int .i64))) (fun x=>(x.Won,x.Plan))
theorem Answer.un {S:Nat→Prop}{w:World}{cs:List Value}{x:Answer}(h:Answer.rp.rel S w cs x):∃a0 c0,∃a1 c1,cs=[.slice a0 x.Won.length c0,.slice a1 x.Plan.length c1]∧Sl (Rp.int .i64) S w a0 c0 x.Won∧Sl (Rp.int .i64) S w a1 c1 x.Plan:=by
 obtain⟨_,_,rfl,⟨a0,c0,rfl,hs0⟩,⟨a1,c1,rfl,hs1⟩⟩:=h
 exact⟨a0,c0,a1,c1,rfl,hs0,hs1⟩
structure Edit where
 Kind:Int
 V:Int
 N:Int
def Edit.rp:Rp Edit:=Rp.iso (Rp.pair (Rp.int .i64) (Rp.pair (Rp.int .i64) (Rp.int .i64))) (fun x=>(x.Kind,x.V,x.N))
theorem Edit.un {S:Nat→Prop}{w:World}{cs:List Value}{x:Edit}(h:Edit.rp.rel S w cs x):cs=[.int .i64 x.Kind,.int .i64 x.V,.int .i64 x.N]:=by
 obtain⟨_,_,rfl,rfl,⟨_,_,rfl,rfl,rfl⟩⟩:=h
 exact rfl
def Edit.ep42:Ep Edit:=Ep.iso (Ep.pair (Ep.int .i64) (Ep.pair (Ep.int .i64) (Ep.int .i64))) (fun x=>(x.Kind,x.V,x.N))
theorem Edit.pu42:Edit.ep42.Pu:=pu_iso _ (pu_pair (pu_int _) (pu_pair (pu_int _) (pu_int _)))
theorem Edit.no42:Edit.ep42.No:=no_iso _ (no_pair (no_int _) (no_pair (no_int _) (no_int _)))
structure l7Game where
 owner:(List Int)
 prio:(List Int)
 next:(List (List Int))
 prev:(List (List Int))
 pick:(List Int)
def l7Game.rp:Rp l7Game:=Rp.iso (Rp.pair (Rp.sl (Rp.int .i64)) (Rp.pair (Rp.sl (Rp.int .i64)) (Rp.pair (Rp.sl (Rp.sl (Rp.int .i64))) (Rp.pair (Rp.sl (Rp.sl (Rp.int .i64))) (Rp.sl (Rp.int .i64)))))) (fun x=>(x.owner,x.prio,x.next,x.prev,x.pick))
theorem l7Game.un {S:Nat→Prop}{w:World}{cs:List Value}{x:l7Game}(h:l7Game.rp.rel S w cs x):∃a0 c0,∃a1 c1,∃a2 c2,∃a3 c3,∃a4 c4,cs=[.slice a0 x.owner.length c0,.slice a1 x.prio.length c1,.slice a2 x.next.length c2,.slice a3 x.prev.length c3,.slice a4 x.pick.length c4]∧Sl (Rp.int .i64) S w a0 c0 x.owner∧Sl (Rp.int .i64) S w a1 c1 x.prio∧Sl (Rp.sl (Rp.int .i64)) S w a2 c2 x.next∧Sl (Rp.sl (Rp.int .i64)) S w a3 c3 x.prev∧Sl (Rp.int .i64) S w a4 c4 x.pick:=by
 obtain⟨_,_,rfl,⟨a0,c0,rfl,hs0⟩,⟨_,_,rfl,⟨a1,c1,rfl,hs1⟩,⟨_,_,rfl,⟨a2,c2,rfl,hs2⟩,⟨_,_,rfl,⟨a3,c3,rfl,hs3⟩,⟨a4,c4,rfl,hs4⟩⟩⟩⟩⟩:=h
 exact⟨a0,c0,a1,c1,a2,c2,a3,c3,a4,c4,rfl,hs0,hs1,hs2,hs3,hs4⟩
structure boundsError where
 x:Int
 y:Int
 signed:Bool
 code:Int
def boundsError.rp:Rp boundsError:=Rp.iso (Rp.pair (Rp.int .i64) (Rp.pair (Rp.int .i64) (Rp.pair Rp.bool (Rp.int .u8)))) (fun x=>(x.x,x.y,x.signed,x.code))
theorem boundsError.un {S:Nat→Prop}{w:World}{cs:List Value}{x:boundsError}(h:boundsError.rp.rel S w cs x):cs=[.int .i64 x.x,.int .i64 x.y,.bool x.signed,.int .u8 x.code]:=by
 obtain⟨_,_,rfl,rfl,⟨_,_,rfl,rfl,⟨_,_,rfl,rfl,rfl⟩⟩⟩:=h
 exact rfl
structure errorAddressString where
 msg:ByteArray
 addr:Int
def errorAddressString.rp:Rp errorAddressString:=Rp.iso (Rp.pair Rp.str (Rp.int .u64)) (fun x=>(x.msg,x.addr))
theorem errorAddressString.un {S:Nat→Prop}{w:World}{cs:List Value}{x:errorAddressString}(h:errorAddressString.rp.rel S w cs x):cs=[.string x.msg,.int .u64 x.addr]:=by
 obtain⟨_,_,rfl,rfl,rfl⟩:=h
 exact rfl
structure l1Cur where
 b:(List Int)
 i:Int
 h:Int
def l1Cur.rp:Rp l1Cur:=Rp.iso (Rp.pair (Rp.sl (Rp.int .u8)) (Rp.pair (Rp.int .i64) (Rp.int .i64))) (fun x=>(x.b,x.i,x.h))
theorem l1Cur.un {S:Nat→Prop}{w:World}{cs:List Value}{x:l1Cur}(h:l1Cur.rp.rel S w cs x):∃a0 c0,cs=[.slice a0 x.b.length c0,.int .i64 x.i,.int .i64 x.h]∧Sl (Rp.int .u8) S w a0 c0 x.b:=by
 obtain⟨_,_,rfl,⟨a0,c0,rfl,hs0⟩,⟨_,_,rfl,rfl,rfl⟩⟩:=h
 exact⟨a0,c0,rfl,hs0⟩
structure solver where
 game:Parity
 preds:(List (List Int))
def solver.rp:Rp solver:=Rp.iso (Rp.pair Parity.rp (Rp.sl (Rp.sl (Rp.int .i64)))) (fun x=>(x.game,x.preds))
theorem solver.un {S:Nat→Prop}{w:World}{cs:List Value}{x:solver}(h:solver.rp.rel S w cs x):∃a0 c0,∃a1 c1,∃a2 c2,∃a3 c3,cs=[.slice a0 x.game.Arena.Owner.length c0,.slice a1 x.game.Arena.Next.length c1,.slice a2 x.game.Prio.length c2,.slice a3 x.preds.length c3]∧Sl (Rp.int .i64) S w a0 c0 x.game.Arena.Owner∧Sl (Rp.sl (Rp.int .i64)) S w a1 c1 x.game.Arena.Next∧Sl (Rp.int .i64) S w a2 c2 x.game.Prio∧Sl (Rp.sl (Rp.int .i64)) S w a3 c3 x.preds:=by
 obtain⟨_,_,rfl,⟨_,_,rfl,⟨_,_,rfl,⟨a0,c0,rfl,hs0⟩,⟨a1,c1,rfl,hs1⟩⟩,⟨a2,c2,rfl,hs2⟩⟩,⟨a3,c3,rfl,hs3⟩⟩:=h
 exact⟨a0,c0,a1,c1,a2,c2,a3,c3,rfl,hs0,hs1,hs2,hs3⟩
theorem Tryzinfo2:Tryz.prog.info? 2=some Tryz.t2:=by kernel_rfl
theorem Tryzinfo3:Tryz.prog.info? 3=some Tryz.t3:=by kernel_rfl
theorem Tryzinfo4:Tryz.prog.info? 4=some Tryz.t4:=by kernel_rfl
theorem Tryzinfo22:Tryz.prog.info? 22=some Tryz.t22:=by kernel_rfl
theorem Tryzinfo42:Tryz.prog.info? 42=some Tryz.t42:=by kernel_rfl
end Go.Proofs.YtmiilifclnanlaaGreat
