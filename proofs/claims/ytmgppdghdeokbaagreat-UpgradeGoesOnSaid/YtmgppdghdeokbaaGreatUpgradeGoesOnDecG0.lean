/- What is proved: a place of the law UpgradeGoesOn (or a part of one) is what its tree of tests says. Conditions: none. -/
import Derived.Test.YtmgppdghdeokbaaGreatUpgradeGoesOnDecF
namespace Go.Proofs.YtmgppdghdeokbaaGreat.upgradeGoesOn
open Go.AE Ug
def pb6 (n k:Nat) (l:List Nat):Prop:=decB (EF m90) [7,17,33,1000014,1000028,1000029,1000049] 20000 (d90 E0) t90 6 (wayB n k)=some (jl (d90 E0) l)
theorem wP0:pb6 2 3 []:=by unfold pb6;kernel_rfl
theorem wP1:pb6 6 47 [7]:=by unfold pb6;kernel_rfl
theorem wP2:pb6 6 46 []:=by unfold pb6;kernel_rfl
theorem wP4:pb6 5 22 []:=by unfold pb6;kernel_rfl
theorem wP6:pb6 4 10 []:=by unfold pb6;kernel_rfl
end Go.Proofs.YtmgppdghdeokbaaGreat.upgradeGoesOn
