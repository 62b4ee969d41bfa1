/- What is proved: that function 16 of the law MemoryExtends is the plain function over data whose tree of tests was written out before: place 0, in pieces. Conditions: the program is the given one. -/
import Derived.Test.YtojjaeaohjlfnaaGreatMemoryExtendsDecF16x0
set_option linter.unusedVariables false
namespace Go.Proofs.YtojjaeaohjlfnaaGreat.memoryExtends
open Go.AE Mx
theorem rYq20:pf16 10 822 []:=by unfold pf16;kernel_rfl
theorem rYq22:pf16 9 410 []:=by unfold pf16;kernel_rfl
theorem rYq24:pf16 9 409 []:=by unfold pf16;kernel_rfl
theorem rYq25:pf16 10 817 []:=by unfold pf16;kernel_rfl
end Go.Proofs.YtojjaeaohjlfnaaGreat.memoryExtends
