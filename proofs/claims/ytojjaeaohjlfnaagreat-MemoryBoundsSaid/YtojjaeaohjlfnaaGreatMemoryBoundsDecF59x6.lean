/- What is proved: that function 59 of the law MemoryBounds is the plain function over data whose tree of tests was written out before: place 0, in pieces. Conditions: the program is the given one. -/
import Derived.Test.YtojjaeaohjlfnaaGreatMemoryBoundsDecF59x0
set_option linter.unusedVariables false
namespace Go.Proofs.YtojjaeaohjlfnaaGreat.memoryBounds
open Go.AE Mz
theorem yOq29:pf59 7 0 []:=by unfold pf59;kernel_rfl
end Go.Proofs.YtojjaeaohjlfnaaGreat.memoryBounds
