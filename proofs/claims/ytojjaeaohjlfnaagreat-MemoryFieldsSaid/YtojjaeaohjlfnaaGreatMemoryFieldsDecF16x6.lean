/- What is proved: that function 16 of the law MemoryFields is the plain function over data whose tree of tests was written out before: place 0, in pieces. Conditions: the program is the given one. -/
import Derived.Test.YtojjaeaohjlfnaaGreatMemoryFieldsDecF16x0
set_option linter.unusedVariables false
set_option linter.unusedSectionVars false
set_option linter.unusedSimpArgs false
namespace Go.Proofs.YtojjaeaohjlfnaaGreat.memoryFields
open Go.AE Mm
theorem gIq35:pf16 18 208897 []:=by unfold pf16;kernel_rfl
theorem gIq36:pf16 18 208896 []:=by unfold pf16;kernel_rfl
theorem gIq49:pf16 6 50 []:=by unfold pf16;kernel_rfl
theorem gIq51:pf16 5 24 []:=by unfold pf16;kernel_rfl
end Go.Proofs.YtojjaeaohjlfnaaGreat.memoryFields
