/- What is proved: that the law MemoryChains itself is the plain function over data whose tree of tests was written out before: place 1. Conditions: the program is the given one. -/
import Derived.Test.YtojjaeaohjlfnaaGreatMemoryChainsDecA
set_option linter.unusedVariables false
namespace Go.Proofs.YtojjaeaohjlfnaaGreat.memoryChains
open Go.AE Mc
theorem zm:Ag (EF m85) [12] 20000 (d85 E0) t85 1=some (jl (d85 E0) []):=by kernel_rfl
end Go.Proofs.YtojjaeaohjlfnaaGreat.memoryChains

