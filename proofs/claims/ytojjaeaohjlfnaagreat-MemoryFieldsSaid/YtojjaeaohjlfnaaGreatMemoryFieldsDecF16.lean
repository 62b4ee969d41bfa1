/- What is proved: that function 16 of the law MemoryFields is the plain function over data whose tree of tests was written out before: place 0, in pieces. Conditions: the program is the given one. -/
import Derived.Test.YtojjaeaohjlfnaaGreatMemoryFieldsDecF16x0
import Derived.Test.YtojjaeaohjlfnaaGreatMemoryFieldsDecF16x1
import Derived.Test.YtojjaeaohjlfnaaGreatMemoryFieldsDecF16x2
import Derived.Test.YtojjaeaohjlfnaaGreatMemoryFieldsDecF16x3
import Derived.Test.YtojjaeaohjlfnaaGreatMemoryFieldsDecF16x4
import Derived.Test.YtojjaeaohjlfnaaGreatMemoryFieldsDecF16x5
import Derived.Test.YtojjaeaohjlfnaaGreatMemoryFieldsDecF16x6
import Derived.Test.YtojjaeaohjlfnaaGreatMemoryFieldsDecF16x7
set_option linter.unusedVariables false
set_option linter.unusedSectionVars false
set_option linter.unusedSimpArgs false
namespace Go.Proofs.YtojjaeaohjlfnaaGreat.memoryFields
open Go.AE Mm
theorem gIq4:pf16 11 1663 []:=decB_join (wayB 11 1663) gIq2 gIq3
theorem gIq6:pf16 10 831 []:=decB_join (wayB 10 831) gIq4 gIq5
theorem gIq8:pf16 9 415 []:=decB_join (wayB 9 415) gIq6 gIq7
theorem gIq10:pf16 8 207 []:=decB_join (wayB 8 207) gIq8 gIq9
theorem gIq12:pf16 7 103 []:=decB_join (wayB 7 103) gIq10 gIq11
theorem gIq15:pf16 12 3295 []:=decB_join (wayB 12 3295) gIq13 gIq14
theorem gIq17:pf16 11 1647 []:=decB_join (wayB 11 1647) gIq15 gIq16
theorem gIq19:pf16 10 823 []:=decB_join (wayB 10 823) gIq17 gIq18
theorem gIq21:pf16 9 411 []:=decB_join (wayB 9 411) gIq19 gIq20
theorem gIq23:pf16 8 205 []:=decB_join (wayB 8 205) gIq21 gIq22
theorem gIq33:pf16 16 52225 []:=decB_join (wayB 16 52225) gIq31 gIq32
theorem gIq37:pf16 17 104448 []:=decB_join (wayB 17 104448) gIq35 gIq36
theorem gIq38:pf16 16 52224 []:=decB_join (wayB 16 52224) gIq34 gIq37
theorem gIq39:pf16 15 26112 []:=decB_join (wayB 15 26112) gIq33 gIq38
theorem gIq40:pf16 14 13056 []:=decB_join (wayB 14 13056) gIq30 gIq39
theorem gIq41:pf16 13 6528 []:=decB_join (wayB 13 6528) gIq29 gIq40
theorem gIq42:pf16 12 3264 []:=decB_join (wayB 12 3264) gIq28 gIq41
theorem gIq43:pf16 11 1632 []:=decB_join (wayB 11 1632) gIq27 gIq42
theorem gIq44:pf16 10 816 []:=decB_join (wayB 10 816) gIq26 gIq43
theorem gIq45:pf16 9 408 []:=decB_join (wayB 9 408) gIq25 gIq44
theorem gIq46:pf16 8 204 []:=decB_join (wayB 8 204) gIq24 gIq45
theorem gIq47:pf16 7 102 []:=decB_join (wayB 7 102) gIq23 gIq46
theorem gIq48:pf16 6 51 []:=decB_join (wayB 6 51) gIq12 gIq47
theorem gIq50:pf16 5 25 []:=decB_join (wayB 5 25) gIq48 gIq49
theorem gIq52:pf16 4 12 []:=decB_join (wayB 4 12) gIq50 gIq51
theorem gIq53:pf16 3 6 []:=decB_join (wayB 3 6) gIq1 gIq52
theorem gIq54:pf16 2 3 []:=decB_join (wayB 2 3) gIq0 gIq53
theorem gIq56:pf16 1 1 []:=decB_join (wayB 1 1) gIq54 gIq55
theorem gIq58:pf16 0 0 []:=decB_join (wayB 0 0) gIq56 gIq57
theorem gI:Ao (EF m16) [] 20000 (d16 E0) t16 0=some (jl (d16 E0) []):=decB_pt gIq58
theorem c16:AO (EF m16) [] 20000 (d16 E0) t16:=dk1 rfl gI
end Go.Proofs.YtojjaeaohjlfnaaGreat.memoryFields
