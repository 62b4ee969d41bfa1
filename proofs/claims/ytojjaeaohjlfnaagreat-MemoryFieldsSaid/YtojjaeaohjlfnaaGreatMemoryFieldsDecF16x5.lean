/- What is proved: that function 16 of the law MemoryFields is the plain function over data whose tree of tests was written out before: place 0, in pieces. Conditions: the program is the given one. -/
import Derived.Test.YtojjaeaohjlfnaaGreatMemoryFieldsDecF16x0
set_option linter.unusedVariables false
set_option linter.unusedSectionVars false
set_option linter.unusedSimpArgs false
namespace Go.Proofs.YtojjaeaohjlfnaaGreat.memoryFields
open Go.AE Mm
theorem gIq30:pf16 15 26113 []:=by unfold pf16;kernel_rfl
theorem gIq31:pf16 17 104451 []:=by unfold pf16;kernel_rfl
theorem gIq32:pf16 17 104450 []:=by unfold pf16;kernel_rfl
theorem gIq34:pf16 17 104449 []:=by unfold pf16;kernel_rfl
end Go.Proofs.YtojjaeaohjlfnaaGreat.memoryFields
