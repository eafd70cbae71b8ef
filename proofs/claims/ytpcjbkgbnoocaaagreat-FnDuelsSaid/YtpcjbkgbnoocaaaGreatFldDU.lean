/- A field of an element with memory is stored; two slices behind a plain field are taken out and put back. -/
import Derived.Test.YtpcjbkgbnoocaaaGreatFbDU
set_option linter.unusedVariables false
set_option linter.unusedSimpArgs false
namespace Go.Wk
open Go
section
variable {α β γ:Type}{E:Ep α}{E1:Ep β}{E2:Ep γ}{T T1 T2:TypeId}{κ:Col}{w:World}{i:Nat}{a a1 a2:Option Addr}{c c1 c2:Nat}{xs:List α}{ix:Int}
end
end Go.Wk
