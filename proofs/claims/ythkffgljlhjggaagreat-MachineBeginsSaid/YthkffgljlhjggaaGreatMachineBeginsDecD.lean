/- What is proved: that the law MachineBegins itself is the plain function over data whose tree of tests was written out before: place 3. Conditions: the program is the given one. -/
import Derived.Test.YthkffgljlhjggaaGreatMachineBeginsDecC
set_option linter.unusedVariables false
set_option linter.unusedSectionVars false
set_option linter.unusedSimpArgs false
namespace Go.Proofs.YthkffgljlhjggaaGreat.machineBegins
open Go.AE Mb
theorem kw : Ai (EF m81) [12, 20, 1000018] 20000 (d81 E0) t81 3 = some (jl (d81 E0) [3, 1]) := by kernel_rfl
theorem c81 : Au (EF m81) [12, 20, 1000018] 20000 (d81 E0) t81 := dk4 rfl bU fy dW kw
end Go.Proofs.YthkffgljlhjggaaGreat.machineBegins

