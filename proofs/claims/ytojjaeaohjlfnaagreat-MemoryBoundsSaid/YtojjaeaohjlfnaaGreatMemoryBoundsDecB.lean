/- What is proved: that the law MemoryBounds itself is the plain function over data whose tree of tests was written out before: place 1. Conditions: the program is the given one. -/
import Derived.Test.YtojjaeaohjlfnaaGreatMemoryBoundsDecA
set_option linter.unusedVariables false
set_option linter.unusedSectionVars false
set_option linter.unusedSimpArgs false
namespace Go.Proofs.YtojjaeaohjlfnaaGreat.memoryBounds
open Go.AE Mz
theorem j0:Af (EF cN) [8] 20000 (XW E0) ZP 1=some (jl (XW E0) [1,1,1]):=by kernel_rfl
theorem Acj:As (EF cN) [8] 20000 (XW E0) ZP:=dk2 rfl kG j0
end Go.Proofs.YtojjaeaohjlfnaaGreat.memoryBounds

