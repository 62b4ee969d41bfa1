/- What is proved: that function 59 of the law MemoryBounds is the plain function over data whose tree of tests was written out before: place 0, in pieces. Conditions: the program is the given one. -/
import Derived.Test.YtojjaeaohjlfnaaGreatMemoryBoundsDecF59x0
set_option linter.unusedVariables false
namespace Go.Proofs.YtojjaeaohjlfnaaGreat.memoryBounds
open Go.AE Mz
theorem yOq20:pf59 5 2 []:=by unfold pf59;kernel_rfl
theorem yOq22:pf59 5 1 []:=by unfold pf59;kernel_rfl
theorem yOq23:pf59 6 1 []:=by unfold pf59;kernel_rfl
end Go.Proofs.YtojjaeaohjlfnaaGreat.memoryBounds
