/- What is proved: that function 16 of the law MemoryBounds is the plain function over data whose tree of tests was written out before: place 0, in pieces. Conditions: the program is the given one. -/
import Derived.Test.YtojjaeaohjlfnaaGreatMemoryBoundsDecF16x0
set_option linter.unusedVariables false
namespace Go.Proofs.YtojjaeaohjlfnaaGreat.memoryBounds
open Go.AE Mz
theorem uxq55:pf16 2 2 []:=by unfold pf16;kernel_rfl
theorem uxq57:pf16 1 0 []:=by unfold pf16;kernel_rfl
end Go.Proofs.YtojjaeaohjlfnaaGreat.memoryBounds
