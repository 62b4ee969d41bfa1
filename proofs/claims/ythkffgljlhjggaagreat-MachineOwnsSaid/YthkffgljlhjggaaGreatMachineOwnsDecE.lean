/- What is proved: that the law MachineOwns itself is the plain function over data whose tree of tests was written out before: place 4. Conditions: the program is the given one. -/
import Derived.Test.YthkffgljlhjggaaGreatMachineOwnsDecD
set_option linter.unusedVariables false
set_option linter.unusedSectionVars false
set_option linter.unusedSimpArgs false
namespace Go.Proofs.YthkffgljlhjggaaGreat.machineOwns
open Go.AE Mo
theorem jN : Ah (EF m72) [14, 18, 22, 28] 20000 (d72 E0) t72 4 = some (jl (d72 E0) [4, 5]) := by kernel_rfl
end Go.Proofs.YthkffgljlhjggaaGreat.machineOwns

