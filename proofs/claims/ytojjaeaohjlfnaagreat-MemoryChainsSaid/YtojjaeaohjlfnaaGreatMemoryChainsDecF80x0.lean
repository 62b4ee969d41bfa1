/- What is proved: that function 80 of the law MemoryChains is the plain function over data whose tree of tests was written out before: place 0, in pieces. Conditions: the program is the given one. -/
import Derived.Test.YtojjaeaohjlfnaaGreatMemoryChainsDecF16x0
set_option linter.unusedVariables false
namespace Go.Proofs.YtojjaeaohjlfnaaGreat.memoryChains
open Go.AE Mc
def pf80 (n k:Nat) (l:List Nat):Prop:=decB (EF m80) [] 20000 (d80 E0) t80 0 (wayB n k)=some (jl (d80 E0) l)
theorem nWq0:pf80 1 1 []:=by unfold pf80;kernel_rfl
theorem nWq1:pf80 2 1 []:=by unfold pf80;kernel_rfl
theorem nWq2:pf80 4 3 []:=by unfold pf80;kernel_rfl
end Go.Proofs.YtojjaeaohjlfnaaGreat.memoryChains
