/- What is proved: a place of the law UpgradeGoesOn (or a part of one) is what its tree of tests says. Conditions: none. -/
import Derived.Test.YtmgppdghdeokbaaGreatUpgradeGoesOnDecD2
namespace Go.Proofs.YtmgppdghdeokbaaGreat.upgradeGoesOn
open Go.AE Ug
theorem pV4:pb3 15 16351 [4,5,4]:=decB_join (wayB 15 16351) pV2 pV3
theorem pV6:pb3 14 8175 [4,5,4]:=decB_join (wayB 14 8175) pV4 pV5
theorem pV8:pb3 13 4087 [4,5,4]:=decB_join (wayB 13 4087) pV6 pV7
theorem pV10:pb3 12 2043 [4,5,4,4]:=decB_join (wayB 12 2043) pV8 pV9
theorem pV12:pb3 11 1021 [4,5,4,4,4]:=decB_join (wayB 11 1021) pV10 pV11
theorem pV14:pb3 10 510 [4,5,4,4,4]:=decB_join (wayB 10 510) pV12 pV13
theorem pV15:pb3 9 255 [4,4,5,4,4,4]:=decB_join (wayB 9 255) pV1 pV14
theorem pV17:pb3 8 127 [4,4,5,4,4,4]:=decB_join (wayB 8 127) pV15 pV16
theorem pV19:pb3 7 63 [4,4,5,4,4,4,4]:=decB_join (wayB 7 63) pV17 pV18
theorem pV21:pb3 6 31 [4,4,5,4,4,4,4]:=decB_join (wayB 6 31) pV19 pV20
theorem pV23:pb3 5 15 [4,4,5,4,4,4,4]:=decB_join (wayB 5 15) pV21 pV22
theorem pV25:pb3 4 7 [4,4,5,4,4,4,4]:=decB_join (wayB 4 7) pV23 pV24
theorem pV27:pb3 3 3 [4,4,5,4,4,4,4]:=decB_join (wayB 3 3) pV25 pV26
theorem pV29:pb3 2 1 [4,4,5,4,4,4,4]:=decB_join (wayB 2 1) pV27 pV28
theorem pV31:pb3 1 0 [4,4,5,4,4,4,4]:=decB_join (wayB 1 0) pV29 pV30
theorem pV32:pb3 0 0 [3,4,4,5,4,4,4,4]:=decB_join (wayB 0 0) pV0 pV31
theorem pV:Ag (EF m90) [7,17,33,1000014,1000028,1000029,1000049] 20000 (d90 E0) t90 3=some (jl (d90 E0) [3,4,4,5,4,4,4,4]):=decB_pt pV32
end Go.Proofs.YtmgppdghdeokbaaGreat.upgradeGoesOn

