/- What is proved: that function 16 of the law MemoryChains is the plain function over data whose tree of tests was written out before: place 0, in pieces. Conditions: the program is the given one. -/
import Derived.Test.YtojjaeaohjlfnaaGreatMemoryChainsDecF16x0
set_option linter.unusedVariables false
namespace Go.Proofs.YtojjaeaohjlfnaaGreat.memoryChains
open Go.AE Mc
theorem uzq13:pf16 13 6591 []:=by unfold pf16;kernel_rfl
theorem uzq14:pf16 13 6590 []:=by unfold pf16;kernel_rfl
theorem uzq16:pf16 12 3294 []:=by unfold pf16;kernel_rfl
theorem uzq18:pf16 11 1646 []:=by unfold pf16;kernel_rfl
end Go.Proofs.YtojjaeaohjlfnaaGreat.memoryChains
