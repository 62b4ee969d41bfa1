/- What is proved: a place of the law UpgradeGoesOn (or a part of one) is what its tree of tests says. Conditions: none. -/
import Derived.Test.YtmgppdghdeokbaaGreatUpgradeGoesOnDecG1
namespace Go.Proofs.YtmgppdghdeokbaaGreat.upgradeGoesOn
open Go.AE Ug
theorem wP9:pb6 9 318 [7]:=by unfold pb6;kernel_rfl
theorem wP11:pb6 8 158 []:=by unfold pb6;kernel_rfl
theorem wP13:pb6 7 78 []:=by unfold pb6;kernel_rfl
theorem wP15:pb6 6 38 []:=by unfold pb6;kernel_rfl
theorem wP17:pb6 5 18 []:=by unfold pb6;kernel_rfl
end Go.Proofs.YtmgppdghdeokbaaGreat.upgradeGoesOn
