/- What is proved: a place of the law UpgradeGoesOn (or a part of one) is what its tree of tests says. Conditions: none. -/
import Derived.Test.YtmgppdghdeokbaaGreatUpgradeGoesOnDecC
namespace Go.Proofs.YtmgppdghdeokbaaGreat.upgradeGoesOn
open Go.AE Ug
def pb3 (n k:Nat) (l:List Nat):Prop:=decB (EF m90) [7,17,33,1000014,1000028,1000029,1000049] 20000 (d90 E0) t90 3 (wayB n k)=some (jl (d90 E0) l)
theorem pV0:pb3 1 1 [3]:=by unfold pb3;kernel_rfl
theorem pV1:pb3 10 511 [4]:=by unfold pb3;kernel_rfl
end Go.Proofs.YtmgppdghdeokbaaGreat.upgradeGoesOn
