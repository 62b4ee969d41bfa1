/- What is proved: that function 16 of the law MemoryBounds is the plain function over data whose tree of tests was written out before: place 0, in pieces. Conditions: the program is the given one. -/
import Derived.Test.YtojjaeaohjlfnaaGreatMemoryBoundsDecF16x0
set_option linter.unusedVariables false
namespace Go.Proofs.YtojjaeaohjlfnaaGreat.memoryBounds
open Go.AE Mz
theorem uxq35:pf16 18 208897 []:=by unfold pf16;kernel_rfl
theorem uxq36:pf16 18 208896 []:=by unfold pf16;kernel_rfl
theorem uxq49:pf16 6 50 []:=by unfold pf16;kernel_rfl
theorem uxq51:pf16 5 24 []:=by unfold pf16;kernel_rfl
end Go.Proofs.YtojjaeaohjlfnaaGreat.memoryBounds
