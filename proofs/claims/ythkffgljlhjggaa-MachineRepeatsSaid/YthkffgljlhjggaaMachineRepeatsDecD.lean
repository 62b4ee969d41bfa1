/- What is proved: that the law MachineRepeats itself is the plain function over data whose tree of tests was written out before: place 3. Conditions: the program is the given one. -/
import Derived.Test.YthkffgljlhjggaaMachineRepeatsDecC
set_option linter.unusedVariables false
set_option linter.unusedSectionVars false
set_option linter.unusedSimpArgs false
namespace Go.Proofs.Ythkffgljlhjggaa.machineRepeats
open Go.AE Mr
theorem ao : Ak (EF m50) [10, 31, 58] 20000 (d50 E0) t50 3 = some (jl (d50 E0) [3]) := by kernel_rfl
theorem c50 : Av (EF m50) [10, 31, 58] 20000 (d50 E0) t50 := dk4 rfl ac cN bw ao
end Go.Proofs.Ythkffgljlhjggaa.machineRepeats

