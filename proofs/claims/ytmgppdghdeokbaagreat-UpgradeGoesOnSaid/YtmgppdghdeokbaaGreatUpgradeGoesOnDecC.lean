/- What is proved: a place of the law UpgradeGoesOn (or a part of one) is what its tree of tests says. Conditions: none. -/
import Derived.Test.YtmgppdghdeokbaaGreatUpgradeGoesOnDecC2
namespace Go.Proofs.YtmgppdghdeokbaaGreat.upgradeGoesOn
open Go.AE Ug
theorem uq4:pb2 13 4063 [4,5,4]:=decB_join (wayB 13 4063) uq2 uq3
theorem uq6:pb2 12 2031 [4,5,4]:=decB_join (wayB 12 2031) uq4 uq5
theorem uq8:pb2 11 1015 [4,5,4]:=decB_join (wayB 11 1015) uq6 uq7
theorem uq10:pb2 10 507 [4,5,4,4]:=decB_join (wayB 10 507) uq8 uq9
theorem uq12:pb2 9 253 [4,5,4,4,4]:=decB_join (wayB 9 253) uq10 uq11
theorem uq14:pb2 8 126 [4,5,4,4,4]:=decB_join (wayB 8 126) uq12 uq13
theorem uq15:pb2 7 63 [4,4,5,4,4,4]:=decB_join (wayB 7 63) uq1 uq14
theorem uq17:pb2 6 31 [4,4,5,4,4,4]:=decB_join (wayB 6 31) uq15 uq16
theorem uq19:pb2 5 15 [4,4,5,4,4,4,4]:=decB_join (wayB 5 15) uq17 uq18
theorem uq21:pb2 4 7 [4,4,5,4,4,4,4]:=decB_join (wayB 4 7) uq19 uq20
theorem uq23:pb2 3 3 [4,4,5,4,4,4,4]:=decB_join (wayB 3 3) uq21 uq22
theorem uq25:pb2 2 1 [4,4,5,4,4,4,4]:=decB_join (wayB 2 1) uq23 uq24
theorem uq27:pb2 1 0 [4,4,5,4,4,4,4]:=decB_join (wayB 1 0) uq25 uq26
theorem uq28:pb2 0 0 [3,4,4,5,4,4,4,4]:=decB_join (wayB 0 0) uq0 uq27
theorem uq:Ag (EF m90) [7,17,33,1000014,1000028,1000029,1000049] 20000 (d90 E0) t90 2=some (jl (d90 E0) [3,4,4,5,4,4,4,4]):=decB_pt uq28
end Go.Proofs.YtmgppdghdeokbaaGreat.upgradeGoesOn

