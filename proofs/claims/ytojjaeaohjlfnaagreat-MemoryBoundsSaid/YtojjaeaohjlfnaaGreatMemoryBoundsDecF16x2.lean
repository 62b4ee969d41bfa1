/- What is proved: that function 16 of the law MemoryBounds is the plain function over data whose tree of tests was written out before: place 0, in pieces. Conditions: the program is the given one. -/
import Derived.Test.YtojjaeaohjlfnaaGreatMemoryBoundsDecF16x0
set_option linter.unusedVariables false
namespace Go.Proofs.YtojjaeaohjlfnaaGreat.memoryBounds
open Go.AE Mz
theorem uxq13:pf16 13 6591 []:=by unfold pf16;kernel_rfl
theorem uxq14:pf16 13 6590 []:=by unfold pf16;kernel_rfl
theorem uxq16:pf16 12 3294 []:=by unfold pf16;kernel_rfl
theorem uxq18:pf16 11 1646 []:=by unfold pf16;kernel_rfl
end Go.Proofs.YtojjaeaohjlfnaaGreat.memoryBounds
