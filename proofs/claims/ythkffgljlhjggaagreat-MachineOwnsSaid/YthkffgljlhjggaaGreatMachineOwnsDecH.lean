/- What is proved: that the law MachineOwns itself is the plain function over data whose tree of tests was written out before: place 7. Conditions: the program is the given one. -/
import Derived.Test.YthkffgljlhjggaaGreatMachineOwnsDecG
set_option linter.unusedVariables false
set_option linter.unusedSectionVars false
set_option linter.unusedSimpArgs false
namespace Go.Proofs.YthkffgljlhjggaaGreat.machineOwns
open Go.AE Mo
theorem jR : Ah (EF m72) [14, 18, 22, 28] 20000 (d72 E0) t72 7 = some (jl (d72 E0) [7]) := by kernel_rfl
theorem c72 : Ar (EF m72) [14, 18, 22, 28] 20000 (d72 E0) t72 := dk8 rfl dQ ji ik fw jN db jX jR
end Go.Proofs.YthkffgljlhjggaaGreat.machineOwns

