/- What is proved: that function 16 of the law MemoryBounds is the plain function over data whose tree of tests was written out before: place 0, in pieces. Conditions: the program is the given one. -/
import Derived.Test.YtojjaeaohjlfnaaGreatMemoryBoundsDecF16x0
import Derived.Test.YtojjaeaohjlfnaaGreatMemoryBoundsDecF16x1
import Derived.Test.YtojjaeaohjlfnaaGreatMemoryBoundsDecF16x2
import Derived.Test.YtojjaeaohjlfnaaGreatMemoryBoundsDecF16x3
import Derived.Test.YtojjaeaohjlfnaaGreatMemoryBoundsDecF16x4
import Derived.Test.YtojjaeaohjlfnaaGreatMemoryBoundsDecF16x5
import Derived.Test.YtojjaeaohjlfnaaGreatMemoryBoundsDecF16x6
import Derived.Test.YtojjaeaohjlfnaaGreatMemoryBoundsDecF16x7
set_option linter.unusedVariables false
namespace Go.Proofs.YtojjaeaohjlfnaaGreat.memoryBounds
open Go.AE Mz
theorem uxq4:pf16 11 1663 []:=decB_join (wayB 11 1663) uxq2 uxq3
theorem uxq6:pf16 10 831 []:=decB_join (wayB 10 831) uxq4 uxq5
theorem uxq8:pf16 9 415 []:=decB_join (wayB 9 415) uxq6 uxq7
theorem uxq10:pf16 8 207 []:=decB_join (wayB 8 207) uxq8 uxq9
theorem uxq12:pf16 7 103 []:=decB_join (wayB 7 103) uxq10 uxq11
theorem uxq15:pf16 12 3295 []:=decB_join (wayB 12 3295) uxq13 uxq14
theorem uxq17:pf16 11 1647 []:=decB_join (wayB 11 1647) uxq15 uxq16
theorem uxq19:pf16 10 823 []:=decB_join (wayB 10 823) uxq17 uxq18
theorem uxq21:pf16 9 411 []:=decB_join (wayB 9 411) uxq19 uxq20
theorem uxq23:pf16 8 205 []:=decB_join (wayB 8 205) uxq21 uxq22
theorem uxq33:pf16 16 52225 []:=decB_join (wayB 16 52225) uxq31 uxq32
theorem uxq37:pf16 17 104448 []:=decB_join (wayB 17 104448) uxq35 uxq36
theorem uxq38:pf16 16 52224 []:=decB_join (wayB 16 52224) uxq34 uxq37
theorem uxq39:pf16 15 26112 []:=decB_join (wayB 15 26112) uxq33 uxq38
theorem uxq40:pf16 14 13056 []:=decB_join (wayB 14 13056) uxq30 uxq39
theorem uxq41:pf16 13 6528 []:=decB_join (wayB 13 6528) uxq29 uxq40
theorem uxq42:pf16 12 3264 []:=decB_join (wayB 12 3264) uxq28 uxq41
theorem uxq43:pf16 11 1632 []:=decB_join (wayB 11 1632) uxq27 uxq42
theorem uxq44:pf16 10 816 []:=decB_join (wayB 10 816) uxq26 uxq43
theorem uxq45:pf16 9 408 []:=decB_join (wayB 9 408) uxq25 uxq44
theorem uxq46:pf16 8 204 []:=decB_join (wayB 8 204) uxq24 uxq45
theorem uxq47:pf16 7 102 []:=decB_join (wayB 7 102) uxq23 uxq46
theorem uxq48:pf16 6 51 []:=decB_join (wayB 6 51) uxq12 uxq47
theorem uxq50:pf16 5 25 []:=decB_join (wayB 5 25) uxq48 uxq49
theorem uxq52:pf16 4 12 []:=decB_join (wayB 4 12) uxq50 uxq51
theorem uxq53:pf16 3 6 []:=decB_join (wayB 3 6) uxq1 uxq52
theorem uxq54:pf16 2 3 []:=decB_join (wayB 2 3) uxq0 uxq53
theorem uxq56:pf16 1 1 []:=decB_join (wayB 1 1) uxq54 uxq55
theorem uxq58:pf16 0 0 []:=decB_join (wayB 0 0) uxq56 uxq57
theorem ux:Af (EF m16) [] 20000 (d16 E0) t16 0=some (jl (d16 E0) []):=decB_pt uxq58
theorem c16:As (EF m16) [] 20000 (d16 E0) t16:=dk1 rfl ux
end Go.Proofs.YtojjaeaohjlfnaaGreat.memoryBounds
