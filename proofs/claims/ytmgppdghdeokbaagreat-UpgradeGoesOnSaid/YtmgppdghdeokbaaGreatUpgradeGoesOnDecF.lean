/- What is proved: a place of the law UpgradeGoesOn (or a part of one) is what its tree of tests says. Conditions: none. -/
import Derived.Test.YtmgppdghdeokbaaGreatUpgradeGoesOnDecE
namespace Go.Proofs.YtmgppdghdeokbaaGreat.upgradeGoesOn
open Go.AE Ug
theorem qx:Ag (EF m90) [7,17,33,1000014,1000028,1000029,1000049] 20000 (d90 E0) t90 5=some (jl (d90 E0) [6]):=by kernel_rfl
end Go.Proofs.YtmgppdghdeokbaaGreat.upgradeGoesOn

