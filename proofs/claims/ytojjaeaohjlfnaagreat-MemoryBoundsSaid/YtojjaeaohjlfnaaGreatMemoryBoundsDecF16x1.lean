/- What is proved: that function 16 of the law MemoryBounds is the plain function over data whose tree of tests was written out before: place 0, in pieces. Conditions: the program is the given one. -/
import Derived.Test.YtojjaeaohjlfnaaGreatMemoryBoundsDecF16x0
set_option linter.unusedVariables false
namespace Go.Proofs.YtojjaeaohjlfnaaGreat.memoryBounds
open Go.AE Mz
theorem uxq5:pf16 11 1662 []:=by unfold pf16;kernel_rfl
theorem uxq7:pf16 10 830 []:=by unfold pf16;kernel_rfl
theorem uxq9:pf16 9 414 []:=by unfold pf16;kernel_rfl
theorem uxq11:pf16 8 206 []:=by unfold pf16;kernel_rfl
end Go.Proofs.YtojjaeaohjlfnaaGreat.memoryBounds
