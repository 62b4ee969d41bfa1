/- What is proved: that the law MemoryExtends itself is the plain function over data whose tree of tests was written out before: place 0. Conditions: the program is the given one. -/
import Derived.Test.YtojjaeaohjlfnaaGreatMemoryExtendsDecF16
import Derived.Test.YtojjaeaohjlfnaaGreatMemoryExtendsDecF59
set_option linter.unusedVariables false
namespace Go.Proofs.YtojjaeaohjlfnaaGreat.memoryExtends
open Go.AE Mx
def m70 (E:Env):List Sm:=(d69 E).smL a69 (p69 E) 0 (d69 E).shs++m69 E
def p70 (E:Env):Pt:=Mw E 6 [24,5]
def d70 (E:Env):Dec:=
 {g:=70,f:=6,p:=0,pts:=[p70 E],
  shs:=[MW]}
theorem vO:Aj (EF m70) [] 20000 (d70 E0) t70 0=some (jl (d70 E0) []):=by kernel_rfl
theorem c70:Av (EF m70) [] 20000 (d70 E0) t70:=dk1 rfl vO
end Go.Proofs.YtojjaeaohjlfnaaGreat.memoryExtends

