/- What is proved: that the law MachineBegins itself is the plain function over data whose tree of tests was written out before: place 2. Conditions: the program is the given one. -/
import Derived.Test.YthkffgljlhjggaaGreatMachineBeginsDecB
set_option linter.unusedVariables false
set_option linter.unusedSectionVars false
set_option linter.unusedSimpArgs false
namespace Go.Proofs.YthkffgljlhjggaaGreat.machineBegins
open Go.AE Mb
theorem dW : Ai (EF m81) [12, 20, 1000018] 20000 (d81 E0) t81 2 = some (jl (d81 E0) [3, 3, 3]) := by kernel_rfl
end Go.Proofs.YthkffgljlhjggaaGreat.machineBegins

