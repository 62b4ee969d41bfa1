/- What is proved: that function 16 of the law MemoryBounds is the plain function over data whose tree of tests was written out before: place 0, in pieces. Conditions: the program is the given one. -/
import Derived.Test.YtojjaeaohjlfnaaGreatMemoryBoundsDecF16x0
set_option linter.unusedVariables false
namespace Go.Proofs.YtojjaeaohjlfnaaGreat.memoryBounds
open Go.AE Mz
theorem uxq20:pf16 10 822 []:=by unfold pf16;kernel_rfl
theorem uxq22:pf16 9 410 []:=by unfold pf16;kernel_rfl
theorem uxq24:pf16 9 409 []:=by unfold pf16;kernel_rfl
theorem uxq25:pf16 10 817 []:=by unfold pf16;kernel_rfl
end Go.Proofs.YtojjaeaohjlfnaaGreat.memoryBounds
