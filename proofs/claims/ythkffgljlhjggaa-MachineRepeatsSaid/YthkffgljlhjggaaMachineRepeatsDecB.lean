/- What is proved: that the law MachineRepeats itself is the plain function over data whose tree of tests was written out before: place 1. Conditions: the program is the given one. -/
import Derived.Test.YthkffgljlhjggaaMachineRepeatsDecA
set_option linter.unusedVariables false
set_option linter.unusedSectionVars false
set_option linter.unusedSimpArgs false
namespace Go.Proofs.Ythkffgljlhjggaa.machineRepeats
open Go.AE Mr
theorem cN : Ak (EF m50) [10, 31, 58] 20000 (d50 E0) t50 1 = some (jl (d50 E0) [2, 2, 2, 2, 2, 2, 2, 2, 2, 2, 3]) := by kernel_rfl
end Go.Proofs.Ythkffgljlhjggaa.machineRepeats

