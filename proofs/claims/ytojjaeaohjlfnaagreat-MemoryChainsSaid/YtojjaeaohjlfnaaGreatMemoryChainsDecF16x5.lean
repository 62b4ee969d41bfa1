/- What is proved: that function 16 of the law MemoryChains is the plain function over data whose tree of tests was written out before: place 0, in pieces. Conditions: the program is the given one. -/
import Derived.Test.YtojjaeaohjlfnaaGreatMemoryChainsDecF16x0
set_option linter.unusedVariables false
namespace Go.Proofs.YtojjaeaohjlfnaaGreat.memoryChains
open Go.AE Mc
theorem uzq30:pf16 15 26113 []:=by unfold pf16;kernel_rfl
theorem uzq31:pf16 17 104451 []:=by unfold pf16;kernel_rfl
theorem uzq32:pf16 17 104450 []:=by unfold pf16;kernel_rfl
theorem uzq34:pf16 17 104449 []:=by unfold pf16;kernel_rfl
end Go.Proofs.YtojjaeaohjlfnaaGreat.memoryChains
