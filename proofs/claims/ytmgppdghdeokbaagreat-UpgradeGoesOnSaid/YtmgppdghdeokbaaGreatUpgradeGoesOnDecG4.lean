/- What is proved: a place of the law UpgradeGoesOn (or a part of one) is what its tree of tests says. Conditions: none. -/
import Derived.Test.YtmgppdghdeokbaaGreatUpgradeGoesOnDecG3
namespace Go.Proofs.YtmgppdghdeokbaaGreat.upgradeGoesOn
open Go.AE Ug
theorem wP20:pb6 9 286 [7]:=by unfold pb6;kernel_rfl
theorem wP22:pb6 8 142 []:=by unfold pb6;kernel_rfl
theorem wP24:pb6 7 70 []:=by unfold pb6;kernel_rfl
theorem wP26:pb6 6 34 []:=by unfold pb6;kernel_rfl
theorem wP28:pb6 5 16 []:=by unfold pb6;kernel_rfl
theorem wP33:pb6 1 0 []:=by unfold pb6;kernel_rfl
end Go.Proofs.YtmgppdghdeokbaaGreat.upgradeGoesOn
