/- The structs of the program as data. -/
import Derived.Test.YtmiilifclnanlaaGreatFbEE
import Derived.Test.YtmiilifclnanlaaGreatProg
set_option linter.unusedVariables false
set_option linter.unusedSimpArgs false
namespace Go.Proofs.YtmiilifclnanlaaGreat
open Go Go.Wk Go.Proofs
structure Arena where
 Owner:(List Int)
 Next:(List (List Int))
def Arena.rp:Rp Arena:=Rp.iso (Rp.pair (Rp.sl (Rp.int .i64)) (Rp.sl (Rp.sl (Rp.int .i64)))) (fun x=>(x.Owner,x.Next))
structure Parity where
 Arena:Arena
 Prio:(List Int)
def Parity.rp:Rp Parity:=Rp.iso (Rp.pair Arena.rp (Rp.sl (Rp.int .i64))) (fun x=>(x.Arena,x.Prio))
structure Answer where
 Won:(List Int)
 Plan:(List Int)
def Answer.rp:Rp Answer:=Rp.iso (Rp.pair (Rp.sl (Rp.int .i64)) (Rp.sl (Rp.int .i64))) (fun x=>(x.Won,x.Plan))
structure Edit where
 Kind:Int
 V:Int
 N:Int
def Edit.rp:Rp Edit:=Rp.iso (Rp.pair (Rp.int .i64) (Rp.pair (Rp.int .i64) (Rp.int .i64))) (fun x=>(x.Kind,x.V,x.N))
structure l7Game where
 owner:(List Int)
 prio:(List Int)
 next:(List (List Int))
 prev:(List (List Int))
 pick:(List Int)
def l7Game.rp:Rp l7Game:=Rp.iso (Rp.pair (Rp.sl (Rp.int .i64)) (Rp.pair (Rp.sl (Rp.int .i64)) (Rp.pair (Rp.sl (Rp.sl (Rp.int .i64))) (Rp.pair (Rp.sl (Rp.sl (Rp.int .i64))) (Rp.sl (Rp.int .i64)))))) (fun x=>(x.owner,x.prio,x.next,x.prev,x.pick))
structure boundsError where
 x:Int
 y:Int
 signed:Bool
 code:Int
def boundsError.rp:Rp boundsError:=Rp.iso (Rp.pair (Rp.int .i64) (Rp.pair (Rp.int .i64) (Rp.pair Rp.bool (Rp.int .u8)))) (fun x=>(x.x,x.y,x.signed,x.code))
structure errorAddressString where
 msg:ByteArray
 addr:Int
def errorAddressString.rp:Rp errorAddressString:=Rp.iso (Rp.pair Rp.str (Rp.int .u64)) (fun x=>(x.msg,x.addr))
structure l1Cur where
 b:(List Int)
 i:Int
 h:Int
def l1Cur.rp:Rp l1Cur:=Rp.iso (Rp.pair (Rp.sl (Rp.int .u8)) (Rp.pair (Rp.int .i64) (Rp.int .i64))) (fun x=>(x.b,x.i,x.h))
structure solver where
 game:Parity
 preds:(List (List Int))
def solver.rp:Rp solver:=Rp.iso (Rp.pair Parity.rp (Rp.sl (Rp.sl (Rp.int .i64)))) (fun x=>(x.game,x.preds))
theorem Tryzinfo2:Tryz.prog.info? 2=some Tryz.t2:=by kernel_rfl
theorem Tryzinfo3:Tryz.prog.info? 3=some Tryz.t3:=by kernel_rfl
theorem Tryzinfo4:Tryz.prog.info? 4=some Tryz.t4:=by kernel_rfl
theorem Tryzinfo22:Tryz.prog.info? 22=some Tryz.t22:=by kernel_rfl
end Go.Proofs.YtmiilifclnanlaaGreat
