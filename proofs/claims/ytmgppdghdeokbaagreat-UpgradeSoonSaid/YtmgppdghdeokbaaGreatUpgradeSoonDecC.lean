/- What is proved: that the law UpgradeSoon itself is the plain function over data whose tree of tests was written out before: place 2. Conditions: the program is the given one. -/
import Derived.Test.YtmgppdghdeokbaaGreatUpgradeSoonDecB
set_option linter.unusedVariables false
set_option linter.unusedSectionVars false
set_option linter.unusedSimpArgs false
namespace Go.Proofs.YtmgppdghdeokbaaGreat.upgradeSoon
open Go.AE Us
theorem mo:Af (EF m91) [10,19] 20000 (d91 E0) t91 2=some (jl (d91 E0) [2]):=by kernel_rfl
theorem c91:Au (EF m91) [10,19] 20000 (d91 E0) t91:=dk3 rfl ta sc mo
end Go.Proofs.YtmgppdghdeokbaaGreat.upgradeSoon

