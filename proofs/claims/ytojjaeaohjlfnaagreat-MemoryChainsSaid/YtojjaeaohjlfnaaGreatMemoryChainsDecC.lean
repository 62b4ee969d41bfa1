/- What is proved: that the law MemoryChains itself is the plain function over data whose tree of tests was written out before: place 2. Conditions: the program is the given one. -/
import Derived.Test.YtojjaeaohjlfnaaGreatMemoryChainsDecB
set_option linter.unusedVariables false
namespace Go.Proofs.YtojjaeaohjlfnaaGreat.memoryChains
open Go.AE Mc
theorem rH:Ag (EF m85) [12] 20000 (d85 E0) t85 2=some (jl (d85 E0) [2]):=by kernel_rfl
theorem c85:As (EF m85) [12] 20000 (d85 E0) t85:=dk3 rfl rF zm rH
end Go.Proofs.YtojjaeaohjlfnaaGreat.memoryChains

