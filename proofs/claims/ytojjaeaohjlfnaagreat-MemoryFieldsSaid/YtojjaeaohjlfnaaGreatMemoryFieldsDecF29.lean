/- What is proved: that function 29 of the law MemoryFields is the plain function over data whose tree of tests was written out before: place 0, in pieces. Conditions: the program is the given one. -/
import Derived.Test.YtojjaeaohjlfnaaGreatMemoryFieldsDecF29x0
import Derived.Test.YtojjaeaohjlfnaaGreatMemoryFieldsDecF29x1
import Derived.Test.YtojjaeaohjlfnaaGreatMemoryFieldsDecF29x2
import Derived.Test.YtojjaeaohjlfnaaGreatMemoryFieldsDecF29x3
import Derived.Test.YtojjaeaohjlfnaaGreatMemoryFieldsDecF29x4
import Derived.Test.YtojjaeaohjlfnaaGreatMemoryFieldsDecF29x5
import Derived.Test.YtojjaeaohjlfnaaGreatMemoryFieldsDecF29x6
set_option linter.unusedVariables false
set_option linter.unusedSectionVars false
set_option linter.unusedSimpArgs false
namespace Go.Proofs.YtojjaeaohjlfnaaGreat.memoryFields
open Go.AE Mm
theorem f9q4:pf29 3 1 []:=decB_join (wayB 3 1) f9q2 f9q3
theorem f9q9:pf29 11 222 []:=decB_join (wayB 11 222) f9q7 f9q8
theorem f9q10:pf29 10 111 []:=decB_join (wayB 10 111) f9q6 f9q9
theorem f9q12:pf29 9 55 []:=decB_join (wayB 9 55) f9q10 f9q11
theorem f9q14:pf29 8 27 []:=decB_join (wayB 8 27) f9q12 f9q13
theorem f9q16:pf29 7 13 []:=decB_join (wayB 7 13) f9q14 f9q15
theorem f9q18:pf29 6 6 []:=decB_join (wayB 6 6) f9q16 f9q17
theorem f9q19:pf29 5 3 []:=decB_join (wayB 5 3) f9q5 f9q18
theorem f9q21:pf29 4 1 []:=decB_join (wayB 4 1) f9q19 f9q20
theorem f9q26:pf29 8 3 []:=decB_join (wayB 8 3) f9q24 f9q25
theorem f9q28:pf29 7 1 []:=decB_join (wayB 7 1) f9q26 f9q27
theorem f9q30:pf29 6 0 []:=decB_join (wayB 6 0) f9q28 f9q29
theorem f9q31:pf29 5 0 []:=decB_join (wayB 5 0) f9q23 f9q30
theorem f9q32:pf29 4 0 []:=decB_join (wayB 4 0) f9q22 f9q31
theorem f9q33:pf29 3 0 []:=decB_join (wayB 3 0) f9q21 f9q32
theorem f9q34:pf29 2 0 []:=decB_join (wayB 2 0) f9q4 f9q33
theorem f9q35:pf29 1 0 []:=decB_join (wayB 1 0) f9q1 f9q34
theorem f9q36:pf29 0 0 []:=decB_join (wayB 0 0) f9q0 f9q35
theorem f9:Ao (EF m29) [] 20000 (d29 E0) t29 0=some (jl (d29 E0) []):=decB_pt f9q36
theorem c29:AO (EF m29) [] 20000 (d29 E0) t29:=dk1 rfl f9
end Go.Proofs.YtojjaeaohjlfnaaGreat.memoryFields
