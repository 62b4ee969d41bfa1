/- What is proved: that function 59 of the law MemoryBounds is the plain function over data whose tree of tests was written out before: place 0, in pieces. Conditions: the program is the given one. -/
import Derived.Test.YtojjaeaohjlfnaaGreatMemoryBoundsDecF59x0
import Derived.Test.YtojjaeaohjlfnaaGreatMemoryBoundsDecF59x1
import Derived.Test.YtojjaeaohjlfnaaGreatMemoryBoundsDecF59x2
import Derived.Test.YtojjaeaohjlfnaaGreatMemoryBoundsDecF59x3
import Derived.Test.YtojjaeaohjlfnaaGreatMemoryBoundsDecF59x4
import Derived.Test.YtojjaeaohjlfnaaGreatMemoryBoundsDecF59x5
import Derived.Test.YtojjaeaohjlfnaaGreatMemoryBoundsDecF59x6
set_option linter.unusedVariables false
namespace Go.Proofs.YtojjaeaohjlfnaaGreat.memoryBounds
open Go.AE Mz
theorem yOq4:pf59 3 1 []:=decB_join (wayB 3 1) yOq2 yOq3
theorem yOq9:pf59 11 222 []:=decB_join (wayB 11 222) yOq7 yOq8
theorem yOq10:pf59 10 111 []:=decB_join (wayB 10 111) yOq6 yOq9
theorem yOq12:pf59 9 55 []:=decB_join (wayB 9 55) yOq10 yOq11
theorem yOq14:pf59 8 27 []:=decB_join (wayB 8 27) yOq12 yOq13
theorem yOq16:pf59 7 13 []:=decB_join (wayB 7 13) yOq14 yOq15
theorem yOq18:pf59 6 6 []:=decB_join (wayB 6 6) yOq16 yOq17
theorem yOq19:pf59 5 3 []:=decB_join (wayB 5 3) yOq5 yOq18
theorem yOq21:pf59 4 1 []:=decB_join (wayB 4 1) yOq19 yOq20
theorem yOq26:pf59 8 3 []:=decB_join (wayB 8 3) yOq24 yOq25
theorem yOq28:pf59 7 1 []:=decB_join (wayB 7 1) yOq26 yOq27
theorem yOq30:pf59 6 0 []:=decB_join (wayB 6 0) yOq28 yOq29
theorem yOq31:pf59 5 0 []:=decB_join (wayB 5 0) yOq23 yOq30
theorem yOq32:pf59 4 0 []:=decB_join (wayB 4 0) yOq22 yOq31
theorem yOq33:pf59 3 0 []:=decB_join (wayB 3 0) yOq21 yOq32
theorem yOq34:pf59 2 0 []:=decB_join (wayB 2 0) yOq4 yOq33
theorem yOq35:pf59 1 0 []:=decB_join (wayB 1 0) yOq1 yOq34
theorem yOq36:pf59 0 0 []:=decB_join (wayB 0 0) yOq0 yOq35
theorem yO:Af (EF m59) [] 20000 (d59 E0) t59 0=some (jl (d59 E0) []):=decB_pt yOq36
theorem c59:As (EF m59) [] 20000 (d59 E0) t59:=dk1 rfl yO
end Go.Proofs.YtojjaeaohjlfnaaGreat.memoryBounds
