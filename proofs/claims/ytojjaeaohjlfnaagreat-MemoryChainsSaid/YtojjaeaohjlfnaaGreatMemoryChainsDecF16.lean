/- What is proved: that function 16 of the law MemoryChains is the plain function over data whose tree of tests was written out before: place 0, in pieces. Conditions: the program is the given one. -/
import Derived.Test.YtojjaeaohjlfnaaGreatMemoryChainsDecF16x0
import Derived.Test.YtojjaeaohjlfnaaGreatMemoryChainsDecF16x1
import Derived.Test.YtojjaeaohjlfnaaGreatMemoryChainsDecF16x2
import Derived.Test.YtojjaeaohjlfnaaGreatMemoryChainsDecF16x3
import Derived.Test.YtojjaeaohjlfnaaGreatMemoryChainsDecF16x4
import Derived.Test.YtojjaeaohjlfnaaGreatMemoryChainsDecF16x5
import Derived.Test.YtojjaeaohjlfnaaGreatMemoryChainsDecF16x6
import Derived.Test.YtojjaeaohjlfnaaGreatMemoryChainsDecF16x7
set_option linter.unusedVariables false
namespace Go.Proofs.YtojjaeaohjlfnaaGreat.memoryChains
open Go.AE Mc
theorem uzq4:pf16 11 1663 []:=decB_join (wayB 11 1663) uzq2 uzq3
theorem uzq6:pf16 10 831 []:=decB_join (wayB 10 831) uzq4 uzq5
theorem uzq8:pf16 9 415 []:=decB_join (wayB 9 415) uzq6 uzq7
theorem uzq10:pf16 8 207 []:=decB_join (wayB 8 207) uzq8 uzq9
theorem uzq12:pf16 7 103 []:=decB_join (wayB 7 103) uzq10 uzq11
theorem uzq15:pf16 12 3295 []:=decB_join (wayB 12 3295) uzq13 uzq14
theorem uzq17:pf16 11 1647 []:=decB_join (wayB 11 1647) uzq15 uzq16
theorem uzq19:pf16 10 823 []:=decB_join (wayB 10 823) uzq17 uzq18
theorem uzq21:pf16 9 411 []:=decB_join (wayB 9 411) uzq19 uzq20
theorem uzq23:pf16 8 205 []:=decB_join (wayB 8 205) uzq21 uzq22
theorem uzq33:pf16 16 52225 []:=decB_join (wayB 16 52225) uzq31 uzq32
theorem uzq37:pf16 17 104448 []:=decB_join (wayB 17 104448) uzq35 uzq36
theorem uzq38:pf16 16 52224 []:=decB_join (wayB 16 52224) uzq34 uzq37
theorem uzq39:pf16 15 26112 []:=decB_join (wayB 15 26112) uzq33 uzq38
theorem uzq40:pf16 14 13056 []:=decB_join (wayB 14 13056) uzq30 uzq39
theorem uzq41:pf16 13 6528 []:=decB_join (wayB 13 6528) uzq29 uzq40
theorem uzq42:pf16 12 3264 []:=decB_join (wayB 12 3264) uzq28 uzq41
theorem uzq43:pf16 11 1632 []:=decB_join (wayB 11 1632) uzq27 uzq42
theorem uzq44:pf16 10 816 []:=decB_join (wayB 10 816) uzq26 uzq43
theorem uzq45:pf16 9 408 []:=decB_join (wayB 9 408) uzq25 uzq44
theorem uzq46:pf16 8 204 []:=decB_join (wayB 8 204) uzq24 uzq45
theorem uzq47:pf16 7 102 []:=decB_join (wayB 7 102) uzq23 uzq46
theorem uzq48:pf16 6 51 []:=decB_join (wayB 6 51) uzq12 uzq47
theorem uzq50:pf16 5 25 []:=decB_join (wayB 5 25) uzq48 uzq49
theorem uzq52:pf16 4 12 []:=decB_join (wayB 4 12) uzq50 uzq51
theorem uzq53:pf16 3 6 []:=decB_join (wayB 3 6) uzq1 uzq52
theorem uzq54:pf16 2 3 []:=decB_join (wayB 2 3) uzq0 uzq53
theorem uzq56:pf16 1 1 []:=decB_join (wayB 1 1) uzq54 uzq55
theorem uzq58:pf16 0 0 []:=decB_join (wayB 0 0) uzq56 uzq57
theorem uz:Ag (EF m16) [] 20000 (d16 E0) t16 0=some (jl (d16 E0) []):=decB_pt uzq58
theorem c16:As (EF m16) [] 20000 (d16 E0) t16:=dk1 rfl uz
end Go.Proofs.YtojjaeaohjlfnaaGreat.memoryChains
