/- What is proved: that function 59 of the law MemoryExtends is the plain function over data whose tree of tests was written out before: place 0, in pieces. Conditions: the program is the given one. -/
import Derived.Test.YtojjaeaohjlfnaaGreatMemoryExtendsDecF59x0
import Derived.Test.YtojjaeaohjlfnaaGreatMemoryExtendsDecF59x1
import Derived.Test.YtojjaeaohjlfnaaGreatMemoryExtendsDecF59x2
import Derived.Test.YtojjaeaohjlfnaaGreatMemoryExtendsDecF59x3
import Derived.Test.YtojjaeaohjlfnaaGreatMemoryExtendsDecF59x4
import Derived.Test.YtojjaeaohjlfnaaGreatMemoryExtendsDecF59x5
import Derived.Test.YtojjaeaohjlfnaaGreatMemoryExtendsDecF59x6
set_option linter.unusedVariables false
namespace Go.Proofs.YtojjaeaohjlfnaaGreat.memoryExtends
open Go.AE Mx
theorem waq4:pf59 3 1 []:=decB_join (wayB 3 1) waq2 waq3
theorem waq9:pf59 11 222 []:=decB_join (wayB 11 222) waq7 waq8
theorem waq10:pf59 10 111 []:=decB_join (wayB 10 111) waq6 waq9
theorem waq12:pf59 9 55 []:=decB_join (wayB 9 55) waq10 waq11
theorem waq14:pf59 8 27 []:=decB_join (wayB 8 27) waq12 waq13
theorem waq16:pf59 7 13 []:=decB_join (wayB 7 13) waq14 waq15
theorem waq18:pf59 6 6 []:=decB_join (wayB 6 6) waq16 waq17
theorem waq19:pf59 5 3 []:=decB_join (wayB 5 3) waq5 waq18
theorem waq21:pf59 4 1 []:=decB_join (wayB 4 1) waq19 waq20
theorem waq26:pf59 8 3 []:=decB_join (wayB 8 3) waq24 waq25
theorem waq28:pf59 7 1 []:=decB_join (wayB 7 1) waq26 waq27
theorem waq30:pf59 6 0 []:=decB_join (wayB 6 0) waq28 waq29
theorem waq31:pf59 5 0 []:=decB_join (wayB 5 0) waq23 waq30
theorem waq32:pf59 4 0 []:=decB_join (wayB 4 0) waq22 waq31
theorem waq33:pf59 3 0 []:=decB_join (wayB 3 0) waq21 waq32
theorem waq34:pf59 2 0 []:=decB_join (wayB 2 0) waq4 waq33
theorem waq35:pf59 1 0 []:=decB_join (wayB 1 0) waq1 waq34
theorem waq36:pf59 0 0 []:=decB_join (wayB 0 0) waq0 waq35
theorem wa:Aj (EF m59) [] 20000 (d59 E0) t59 0=some (jl (d59 E0) []):=decB_pt waq36
theorem c59:Av (EF m59) [] 20000 (d59 E0) t59:=dk1 rfl wa
end Go.Proofs.YtojjaeaohjlfnaaGreat.memoryExtends
