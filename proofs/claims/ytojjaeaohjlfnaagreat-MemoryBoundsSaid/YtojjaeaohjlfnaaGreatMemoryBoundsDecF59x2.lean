/- What is proved: that function 59 of the law MemoryBounds is the plain function over data whose tree of tests was written out before: place 0, in pieces. Conditions: the program is the given one. -/
import Derived.Test.YtojjaeaohjlfnaaGreatMemoryBoundsDecF59x0
set_option linter.unusedVariables false
namespace Go.Proofs.YtojjaeaohjlfnaaGreat.memoryBounds
open Go.AE Mz
theorem yOq7:pf59 12 445 []:=by unfold pf59;kernel_rfl
theorem yOq8:pf59 12 444 []:=by unfold pf59;kernel_rfl
theorem yOq11:pf59 10 110 []:=by unfold pf59;kernel_rfl
end Go.Proofs.YtojjaeaohjlfnaaGreat.memoryBounds
