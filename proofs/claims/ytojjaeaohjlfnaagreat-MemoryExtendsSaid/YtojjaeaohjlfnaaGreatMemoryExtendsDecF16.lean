/- What is proved: that function 16 of the law MemoryExtends is the plain function over data whose tree of tests was written out before: place 0, in pieces. Conditions: the program is the given one. -/
import Derived.Test.YtojjaeaohjlfnaaGreatMemoryExtendsDecF16x0
import Derived.Test.YtojjaeaohjlfnaaGreatMemoryExtendsDecF16x1
import Derived.Test.YtojjaeaohjlfnaaGreatMemoryExtendsDecF16x2
import Derived.Test.YtojjaeaohjlfnaaGreatMemoryExtendsDecF16x3
import Derived.Test.YtojjaeaohjlfnaaGreatMemoryExtendsDecF16x4
import Derived.Test.YtojjaeaohjlfnaaGreatMemoryExtendsDecF16x5
import Derived.Test.YtojjaeaohjlfnaaGreatMemoryExtendsDecF16x6
import Derived.Test.YtojjaeaohjlfnaaGreatMemoryExtendsDecF16x7
set_option linter.unusedVariables false
namespace Go.Proofs.YtojjaeaohjlfnaaGreat.memoryExtends
open Go.AE Mx
theorem rYq4:pf16 11 1663 []:=decB_join (wayB 11 1663) rYq2 rYq3
theorem rYq6:pf16 10 831 []:=decB_join (wayB 10 831) rYq4 rYq5
theorem rYq8:pf16 9 415 []:=decB_join (wayB 9 415) rYq6 rYq7
theorem rYq10:pf16 8 207 []:=decB_join (wayB 8 207) rYq8 rYq9
theorem rYq12:pf16 7 103 []:=decB_join (wayB 7 103) rYq10 rYq11
theorem rYq15:pf16 12 3295 []:=decB_join (wayB 12 3295) rYq13 rYq14
theorem rYq17:pf16 11 1647 []:=decB_join (wayB 11 1647) rYq15 rYq16
theorem rYq19:pf16 10 823 []:=decB_join (wayB 10 823) rYq17 rYq18
theorem rYq21:pf16 9 411 []:=decB_join (wayB 9 411) rYq19 rYq20
theorem rYq23:pf16 8 205 []:=decB_join (wayB 8 205) rYq21 rYq22
theorem rYq33:pf16 16 52225 []:=decB_join (wayB 16 52225) rYq31 rYq32
theorem rYq37:pf16 17 104448 []:=decB_join (wayB 17 104448) rYq35 rYq36
theorem rYq38:pf16 16 52224 []:=decB_join (wayB 16 52224) rYq34 rYq37
theorem rYq39:pf16 15 26112 []:=decB_join (wayB 15 26112) rYq33 rYq38
theorem rYq40:pf16 14 13056 []:=decB_join (wayB 14 13056) rYq30 rYq39
theorem rYq41:pf16 13 6528 []:=decB_join (wayB 13 6528) rYq29 rYq40
theorem rYq42:pf16 12 3264 []:=decB_join (wayB 12 3264) rYq28 rYq41
theorem rYq43:pf16 11 1632 []:=decB_join (wayB 11 1632) rYq27 rYq42
theorem rYq44:pf16 10 816 []:=decB_join (wayB 10 816) rYq26 rYq43
theorem rYq45:pf16 9 408 []:=decB_join (wayB 9 408) rYq25 rYq44
theorem rYq46:pf16 8 204 []:=decB_join (wayB 8 204) rYq24 rYq45
theorem rYq47:pf16 7 102 []:=decB_join (wayB 7 102) rYq23 rYq46
theorem rYq48:pf16 6 51 []:=decB_join (wayB 6 51) rYq12 rYq47
theorem rYq50:pf16 5 25 []:=decB_join (wayB 5 25) rYq48 rYq49
theorem rYq52:pf16 4 12 []:=decB_join (wayB 4 12) rYq50 rYq51
theorem rYq53:pf16 3 6 []:=decB_join (wayB 3 6) rYq1 rYq52
theorem rYq54:pf16 2 3 []:=decB_join (wayB 2 3) rYq0 rYq53
theorem rYq56:pf16 1 1 []:=decB_join (wayB 1 1) rYq54 rYq55
theorem rYq58:pf16 0 0 []:=decB_join (wayB 0 0) rYq56 rYq57
theorem rY:Aj (EF m16) [] 20000 (d16 E0) t16 0=some (jl (d16 E0) []):=decB_pt rYq58
theorem c16:Av (EF m16) [] 20000 (d16 E0) t16:=dk1 rfl rY
end Go.Proofs.YtojjaeaohjlfnaaGreat.memoryExtends
