/- What is proved: a place of the law UpgradeGoesOn (or a part of one) is what its tree of tests says. Conditions: none. -/
import Derived.Test.YtmgppdghdeokbaaGreatUpgradeGoesOnDecC0
namespace Go.Proofs.YtmgppdghdeokbaaGreat.upgradeGoesOn
open Go.AE Ug
theorem uq2:pb2 14 8127 [4,5,4]:=by unfold pb2;kernel_rfl
theorem uq3:pb2 14 8126 []:=by unfold pb2;kernel_rfl
theorem uq5:pb2 13 4062 []:=by unfold pb2;kernel_rfl
theorem uq7:pb2 12 2030 []:=by unfold pb2;kernel_rfl
end Go.Proofs.YtmgppdghdeokbaaGreat.upgradeGoesOn
