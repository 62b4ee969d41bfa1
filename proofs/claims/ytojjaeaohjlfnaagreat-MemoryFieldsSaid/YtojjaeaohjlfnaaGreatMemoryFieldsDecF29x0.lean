/- What is proved: that function 29 of the law MemoryFields is the plain function over data whose tree of tests was written out before: place 0, in pieces. Conditions: the program is the given one. -/
import Derived.Test.YtojjaeaohjlfnaaGreatMemoryFieldsDecF16x0
set_option linter.unusedVariables false
set_option linter.unusedSectionVars false
set_option linter.unusedSimpArgs false
namespace Go.Proofs.YtojjaeaohjlfnaaGreat.memoryFields
open Go.AE Mm
def pf29 (n k:Nat) (l:List Nat):Prop:=decB (EF m29) [] 20000 (d29 E0) t29 0 (wayB n k)=some (jl (d29 E0) l)
theorem f9q0:pf29 1 1 []:=by unfold pf29;kernel_rfl
theorem f9q1:pf29 2 1 []:=by unfold pf29;kernel_rfl
theorem f9q2:pf29 4 3 []:=by unfold pf29;kernel_rfl
end Go.Proofs.YtojjaeaohjlfnaaGreat.memoryFields
