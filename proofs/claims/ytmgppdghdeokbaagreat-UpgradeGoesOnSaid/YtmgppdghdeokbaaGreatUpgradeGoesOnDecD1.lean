/- What is proved: a place of the law UpgradeGoesOn (or a part of one) is what its tree of tests says. Conditions: none. -/
import Derived.Test.YtmgppdghdeokbaaGreatUpgradeGoesOnDecD0
namespace Go.Proofs.YtmgppdghdeokbaaGreat.upgradeGoesOn
open Go.AE Ug
theorem pV2:pb3 16 32703 [4,5,4]:=by unfold pb3;kernel_rfl
theorem pV3:pb3 16 32702 []:=by unfold pb3;kernel_rfl
theorem pV5:pb3 15 16350 []:=by unfold pb3;kernel_rfl
theorem pV7:pb3 14 8174 []:=by unfold pb3;kernel_rfl
end Go.Proofs.YtmgppdghdeokbaaGreat.upgradeGoesOn
