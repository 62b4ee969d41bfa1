/- What is proved: a place of the law UpgradeGoesOn (or a part of one) is what its tree of tests says. Conditions: none. -/
import Derived.Test.YtmgppdghdeokbaaGreatUpgradeGoesOnDecG4
namespace Go.Proofs.YtmgppdghdeokbaaGreat.upgradeGoesOn
open Go.AE Ug
theorem wP3:pb6 5 23 [7]:=decB_join (wayB 5 23) wP1 wP2
theorem wP5:pb6 4 11 [7]:=decB_join (wayB 4 11) wP3 wP4
theorem wP7:pb6 3 5 [7]:=decB_join (wayB 3 5) wP5 wP6
theorem wP10:pb6 8 159 [7,7]:=decB_join (wayB 8 159) wP8 wP9
theorem wP12:pb6 7 79 [7,7]:=decB_join (wayB 7 79) wP10 wP11
theorem wP14:pb6 6 39 [7,7]:=decB_join (wayB 6 39) wP12 wP13
theorem wP16:pb6 5 19 [7,7]:=decB_join (wayB 5 19) wP14 wP15
theorem wP18:pb6 4 9 [7,7]:=decB_join (wayB 4 9) wP16 wP17
theorem wP21:pb6 8 143 [7,7]:=decB_join (wayB 8 143) wP19 wP20
theorem wP23:pb6 7 71 [7,7]:=decB_join (wayB 7 71) wP21 wP22
theorem wP25:pb6 6 35 [7,7]:=decB_join (wayB 6 35) wP23 wP24
theorem wP27:pb6 5 17 [7,7]:=decB_join (wayB 5 17) wP25 wP26
theorem wP29:pb6 4 8 [7,7]:=decB_join (wayB 4 8) wP27 wP28
theorem wP30:pb6 3 4 [7,7,7,7]:=decB_join (wayB 3 4) wP18 wP29
theorem wP31:pb6 2 2 [7,7,7,7,7]:=decB_join (wayB 2 2) wP7 wP30
theorem wP32:pb6 1 1 [7,7,7,7,7]:=decB_join (wayB 1 1) wP0 wP31
theorem wP34:pb6 0 0 [7,7,7,7,7]:=decB_join (wayB 0 0) wP32 wP33
theorem wP:Ag (EF m90) [7,17,33,1000014,1000028,1000029,1000049] 20000 (d90 E0) t90 6=some (jl (d90 E0) [7,7,7,7,7]):=decB_pt wP34
end Go.Proofs.YtmgppdghdeokbaaGreat.upgradeGoesOn

