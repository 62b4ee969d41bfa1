/- What is proved: a place of the law UpgradeGoesOn (or a part of one) is what its tree of tests says. Conditions: none. -/
import Derived.Test.YtmgppdghdeokbaaGreatUpgradeGoesOnDecG
namespace Go.Proofs.YtmgppdghdeokbaaGreat.upgradeGoesOn
open Go.AE Ug
theorem pu:Ag (EF m90) [7,17,33,1000014,1000028,1000029,1000049] 20000 (d90 E0) t90 7=some (jl (d90 E0) [6]):=by kernel_rfl
theorem c90:Av (EF m90) [7,17,33,1000014,1000028,1000029,1000049] 20000 (d90 E0) t90:=dk8 rfl tg qj uq pV mJ qx wP pu
end Go.Proofs.YtmgppdghdeokbaaGreat.upgradeGoesOn

