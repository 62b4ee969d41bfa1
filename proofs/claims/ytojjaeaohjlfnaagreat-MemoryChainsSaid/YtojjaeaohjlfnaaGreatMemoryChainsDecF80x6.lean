/- What is proved: that function 80 of the law MemoryChains is the plain function over data whose tree of tests was written out before: place 0, in pieces. Conditions: the program is the given one. -/
import Derived.Test.YtojjaeaohjlfnaaGreatMemoryChainsDecF80x0
set_option linter.unusedVariables false
namespace Go.Proofs.YtojjaeaohjlfnaaGreat.memoryChains
open Go.AE Mc
theorem nWq29:pf80 7 0 []:=by unfold pf80;kernel_rfl
end Go.Proofs.YtojjaeaohjlfnaaGreat.memoryChains
