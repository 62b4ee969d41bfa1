/- What is proved: that the law MachineOwns itself is the plain function over data whose tree of tests was written out before: place 1. Conditions: the program is the given one. -/
import Derived.Test.YthkffgljlhjggaaGreatMachineOwnsDecA
set_option linter.unusedVariables false
set_option linter.unusedSectionVars false
set_option linter.unusedSimpArgs false
namespace Go.Proofs.YthkffgljlhjggaaGreat.machineOwns
open Go.AE Mo
theorem ji : Ah (EF m72) [14, 18, 22, 28] 20000 (d72 E0) t72 1 = some (jl (d72 E0) [1, 2]) := by kernel_rfl
end Go.Proofs.YthkffgljlhjggaaGreat.machineOwns

