/- What is proved: that function 16 of the law MemoryFields is the plain function over data whose tree of tests was written out before: place 0, in pieces. Conditions: the program is the given one. -/
import Derived.Test.YtojjaeaohjlfnaaGreatMemoryFieldsDecF16x0
set_option linter.unusedVariables false
set_option linter.unusedSectionVars false
set_option linter.unusedSimpArgs false
namespace Go.Proofs.YtojjaeaohjlfnaaGreat.memoryFields
open Go.AE Mm
theorem gIq13:pf16 13 6591 []:=by unfold pf16;kernel_rfl
theorem gIq14:pf16 13 6590 []:=by unfold pf16;kernel_rfl
theorem gIq16:pf16 12 3294 []:=by unfold pf16;kernel_rfl
theorem gIq18:pf16 11 1646 []:=by unfold pf16;kernel_rfl
end Go.Proofs.YtojjaeaohjlfnaaGreat.memoryFields
