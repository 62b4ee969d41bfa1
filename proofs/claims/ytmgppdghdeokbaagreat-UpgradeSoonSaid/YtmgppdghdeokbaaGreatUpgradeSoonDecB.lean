/- What is proved: that the law UpgradeSoon itself is the plain function over data whose tree of tests was written out before: place 1. Conditions: the program is the given one. -/
import Derived.Test.YtmgppdghdeokbaaGreatUpgradeSoonDecA
set_option linter.unusedVariables false
set_option linter.unusedSectionVars false
set_option linter.unusedSimpArgs false
namespace Go.Proofs.YtmgppdghdeokbaaGreat.upgradeSoon
open Go.AE Us
theorem sc:Af (EF m91) [10,19] 20000 (d91 E0) t91 1=some (jl (d91 E0) [1,2,2,2,2]):=by kernel_rfl
end Go.Proofs.YtmgppdghdeokbaaGreat.upgradeSoon

