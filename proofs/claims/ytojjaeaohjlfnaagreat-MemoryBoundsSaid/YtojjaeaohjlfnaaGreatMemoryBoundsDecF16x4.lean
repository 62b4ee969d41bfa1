/- What is proved: that function 16 of the law MemoryBounds is the plain function over data whose tree of tests was written out before: place 0, in pieces. Conditions: the program is the given one. -/
import Derived.Test.YtojjaeaohjlfnaaGreatMemoryBoundsDecF16x0
set_option linter.unusedVariables false
namespace Go.Proofs.YtojjaeaohjlfnaaGreat.memoryBounds
open Go.AE Mz
theorem uxq26:pf16 11 1633 []:=by unfold pf16;kernel_rfl
theorem uxq27:pf16 12 3265 []:=by unfold pf16;kernel_rfl
theorem uxq28:pf16 13 6529 []:=by unfold pf16;kernel_rfl
theorem uxq29:pf16 14 13057 []:=by unfold pf16;kernel_rfl
end Go.Proofs.YtojjaeaohjlfnaaGreat.memoryBounds
