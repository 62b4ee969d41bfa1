/- What is proved: that function 80 of the law MemoryChains is the plain function over data whose tree of tests was written out before: place 0, in pieces. Conditions: the program is the given one. -/
import Derived.Test.YtojjaeaohjlfnaaGreatMemoryChainsDecF80x0
import Derived.Test.YtojjaeaohjlfnaaGreatMemoryChainsDecF80x1
import Derived.Test.YtojjaeaohjlfnaaGreatMemoryChainsDecF80x2
import Derived.Test.YtojjaeaohjlfnaaGreatMemoryChainsDecF80x3
import Derived.Test.YtojjaeaohjlfnaaGreatMemoryChainsDecF80x4
import Derived.Test.YtojjaeaohjlfnaaGreatMemoryChainsDecF80x5
import Derived.Test.YtojjaeaohjlfnaaGreatMemoryChainsDecF80x6
set_option linter.unusedVariables false
namespace Go.Proofs.YtojjaeaohjlfnaaGreat.memoryChains
open Go.AE Mc
theorem nWq4:pf80 3 1 []:=decB_join (wayB 3 1) nWq2 nWq3
theorem nWq9:pf80 11 222 []:=decB_join (wayB 11 222) nWq7 nWq8
theorem nWq10:pf80 10 111 []:=decB_join (wayB 10 111) nWq6 nWq9
theorem nWq12:pf80 9 55 []:=decB_join (wayB 9 55) nWq10 nWq11
theorem nWq14:pf80 8 27 []:=decB_join (wayB 8 27) nWq12 nWq13
theorem nWq16:pf80 7 13 []:=decB_join (wayB 7 13) nWq14 nWq15
theorem nWq18:pf80 6 6 []:=decB_join (wayB 6 6) nWq16 nWq17
theorem nWq19:pf80 5 3 []:=decB_join (wayB 5 3) nWq5 nWq18
theorem nWq21:pf80 4 1 []:=decB_join (wayB 4 1) nWq19 nWq20
theorem nWq26:pf80 8 3 []:=decB_join (wayB 8 3) nWq24 nWq25
theorem nWq28:pf80 7 1 []:=decB_join (wayB 7 1) nWq26 nWq27
theorem nWq30:pf80 6 0 []:=decB_join (wayB 6 0) nWq28 nWq29
theorem nWq31:pf80 5 0 []:=decB_join (wayB 5 0) nWq23 nWq30
theorem nWq32:pf80 4 0 []:=decB_join (wayB 4 0) nWq22 nWq31
theorem nWq33:pf80 3 0 []:=decB_join (wayB 3 0) nWq21 nWq32
theorem nWq34:pf80 2 0 []:=decB_join (wayB 2 0) nWq4 nWq33
theorem nWq35:pf80 1 0 []:=decB_join (wayB 1 0) nWq1 nWq34
theorem nWq36:pf80 0 0 []:=decB_join (wayB 0 0) nWq0 nWq35
theorem nW:Ag (EF m80) [] 20000 (d80 E0) t80 0=some (jl (d80 E0) []):=decB_pt nWq36
theorem c80:As (EF m80) [] 20000 (d80 E0) t80:=dk1 rfl nW
end Go.Proofs.YtojjaeaohjlfnaaGreat.memoryChains
