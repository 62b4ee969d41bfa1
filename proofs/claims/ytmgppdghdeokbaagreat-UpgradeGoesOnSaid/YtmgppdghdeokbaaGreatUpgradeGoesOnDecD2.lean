/- What is proved: a place of the law UpgradeGoesOn (or a part of one) is what its tree of tests says. Conditions: none. -/
import Derived.Test.YtmgppdghdeokbaaGreatUpgradeGoesOnDecD1
namespace Go.Proofs.YtmgppdghdeokbaaGreat.upgradeGoesOn
open Go.AE Ug
theorem pV9:pb3 13 4086 [4]:=by unfold pb3;kernel_rfl
theorem pV11:pb3 12 2042 [4]:=by unfold pb3;kernel_rfl
theorem pV13:pb3 11 1020 []:=by unfold pb3;kernel_rfl
theorem pV16:pb3 9 254 []:=by unfold pb3;kernel_rfl
theorem pV18:pb3 8 126 [4]:=by unfold pb3;kernel_rfl
theorem pV20:pb3 7 62 []:=by unfold pb3;kernel_rfl
theorem pV22:pb3 6 30 []:=by unfold pb3;kernel_rfl
theorem pV24:pb3 5 14 []:=by unfold pb3;kernel_rfl
theorem pV26:pb3 4 6 []:=by unfold pb3;kernel_rfl
theorem pV28:pb3 3 2 []:=by unfold pb3;kernel_rfl
theorem pV30:pb3 2 0 []:=by unfold pb3;kernel_rfl
end Go.Proofs.YtmgppdghdeokbaaGreat.upgradeGoesOn
