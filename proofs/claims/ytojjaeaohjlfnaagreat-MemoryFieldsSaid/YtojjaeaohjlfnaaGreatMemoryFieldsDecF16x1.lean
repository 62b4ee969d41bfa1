/- What is proved: that function 16 of the law MemoryFields is the plain function over data whose tree of tests was written out before: place 0, in pieces. Conditions: the program is the given one. -/
import Derived.Test.YtojjaeaohjlfnaaGreatMemoryFieldsDecF16x0
set_option linter.unusedVariables false
set_option linter.unusedSectionVars false
set_option linter.unusedSimpArgs false
namespace Go.Proofs.YtojjaeaohjlfnaaGreat.memoryFields
open Go.AE Mm
theorem gIq5:pf16 11 1662 []:=by unfold pf16;kernel_rfl
theorem gIq7:pf16 10 830 []:=by unfold pf16;kernel_rfl
theorem gIq9:pf16 9 414 []:=by unfold pf16;kernel_rfl
theorem gIq11:pf16 8 206 []:=by unfold pf16;kernel_rfl
end Go.Proofs.YtojjaeaohjlfnaaGreat.memoryFields
