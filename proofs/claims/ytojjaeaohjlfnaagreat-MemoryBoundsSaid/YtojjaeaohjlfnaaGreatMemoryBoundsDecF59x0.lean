/- What is proved: that function 59 of the law MemoryBounds is the plain function over data whose tree of tests was written out before: place 0, in pieces. Conditions: the program is the given one. -/
import Derived.Test.YtojjaeaohjlfnaaGreatMemoryBoundsDecF16x0
set_option linter.unusedVariables false
namespace Go.Proofs.YtojjaeaohjlfnaaGreat.memoryBounds
open Go.AE Mz
def pf59(n k:Nat)(l:List Nat):Prop:=decB (EF m59) [] 20000 (d59 E0) t59 0 (wayB n k)=some (jl (d59 E0) l)
theorem yOq0:pf59 1 1 []:=by unfold pf59;kernel_rfl
theorem yOq1:pf59 2 1 []:=by unfold pf59;kernel_rfl
theorem yOq2:pf59 4 3 []:=by unfold pf59;kernel_rfl
end Go.Proofs.YtojjaeaohjlfnaaGreat.memoryBounds
