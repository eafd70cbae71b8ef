/- The structs opened; the sizes, the copies, the comparisons: plain laws. By program. -/
import Derived.Test.YtmiilifclnanlaaGreatFnsMEE
import Derived.Test.YtmiilifclnanlaaGreatLawEE
set_option linter.unusedVariables false
set_option linter.unusedSimpArgs false
namespace Go.Proofs.YtmiilifclnanlaaGreat
open Go Go.Wk Go.Proofs
set_option maxRecDepth 100000
theorem slices_Index_I_int64_eq (p0:List Int) (p1:Int):slices_Index_I_int64 p0 p1=some (match p0.findIdx? (fun x=>p1==x) with | some i=>(i:Int) | none=> -1):=by
 unfold slices_Index_I_int64
 rw[cnt_find0 (f:=slices_Index_I_int64_b0 p0 p1) (fun x=>p1==x) (fun i=>(i:Int)) (xs:=p0) (fun i x hx=>by
  unfold slices_Index_I_int64_b0
  simp only[idx_nat,hx,Option.bind_some]
  cases p1==x <;> rfl),Option.bind_some]
 cases p0.findIdx? (fun x=>p1==x) <;> rfl
theorem slices_Contains_I_int64_eq (p0:List Int) (p1:Int):slices_Contains_I_int64 p0 p1=some (p0.any (fun x=>p1==x)):=by
 unfold slices_Contains_I_int64
 rw[slices_Index_I_int64_eq,Option.bind_some]
 exact congrArg some (findIdx_any _ p0)
end Go.Proofs.YtmiilifclnanlaaGreat
