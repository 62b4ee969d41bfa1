/- What is proved: a place of the law UpgradeGoesOn (or a part of one) is what its tree of tests says. Conditions: none. -/
import Derived.Test.YtmgppdghdeokbaaGreatUpgradeGoesOnDecC1
namespace Go.Proofs.YtmgppdghdeokbaaGreat.upgradeGoesOn
open Go.AE Ug
theorem uq9:pb2 11 1014 [4]:=by unfold pb2;kernel_rfl
theorem uq11:pb2 10 506 [4]:=by unfold pb2;kernel_rfl
theorem uq13:pb2 9 252 []:=by unfold pb2;kernel_rfl
theorem uq16:pb2 7 62 []:=by unfold pb2;kernel_rfl
theorem uq18:pb2 6 30 [4]:=by unfold pb2;kernel_rfl
theorem uq20:pb2 5 14 []:=by unfold pb2;kernel_rfl
theorem uq22:pb2 4 6 []:=by unfold pb2;kernel_rfl
theorem uq24:pb2 3 2 []:=by unfold pb2;kernel_rfl
theorem uq26:pb2 2 0 []:=by unfold pb2;kernel_rfl
end Go.Proofs.YtmgppdghdeokbaaGreat.upgradeGoesOn
