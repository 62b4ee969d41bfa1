/- What is proved: that function 29 of the law MemoryFields is the plain function over data whose tree of tests was written out before: place 0, in pieces. Conditions: the program is the given one. -/
import Derived.Test.YtojjaeaohjlfnaaGreatMemoryFieldsDecF29x0
set_option linter.unusedVariables false
set_option linter.unusedSectionVars false
set_option linter.unusedSimpArgs false
namespace Go.Proofs.YtojjaeaohjlfnaaGreat.memoryFields
open Go.AE Mm
theorem f9q24:pf29 9 7 []:=by unfold pf29;kernel_rfl
theorem f9q25:pf29 9 6 []:=by unfold pf29;kernel_rfl
theorem f9q27:pf29 8 2 []:=by unfold pf29;kernel_rfl
end Go.Proofs.YtojjaeaohjlfnaaGreat.memoryFields
