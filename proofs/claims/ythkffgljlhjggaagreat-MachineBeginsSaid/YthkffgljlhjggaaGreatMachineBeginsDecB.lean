/- What is proved: that the law MachineBegins itself is the plain function over data whose tree of tests was written out before: place 1. Conditions: the program is the given one. -/
import Derived.Test.YthkffgljlhjggaaGreatMachineBeginsDecA
set_option linter.unusedVariables false
set_option linter.unusedSectionVars false
set_option linter.unusedSimpArgs false
namespace Go.Proofs.YthkffgljlhjggaaGreat.machineBegins
open Go.AE Mb
theorem fy : Ai (EF m81) [12, 20, 1000018] 20000 (d81 E0) t81 1 = some (jl (d81 E0) [2]) := by kernel_rfl
end Go.Proofs.YthkffgljlhjggaaGreat.machineBegins

