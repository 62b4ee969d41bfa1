/- What is proved: that certain calls which the law MemoryBounds makes come to the results that are written here (part 2 of 13). Conditions: the memory that such a call reaches is as written here; the kernel runs the evaluator over each. -/
import Derived.Test.YtojjaeaohjlfnaaGreatMemoryBoundsKnownA
set_option linter.unusedVariables false
set_option linter.unusedSectionVars false
set_option linter.unusedSimpArgs false
namespace Go.Proofs.YtojjaeaohjlfnaaGreat.memoryBounds
open Go.AE
noncomputable def o2:Orc:=
 {f:=29,args:=[(.slice 10 0 4 15),(.func (.func 30) [] [(pN 1597),(pN 1596),(pN 13)])],part:=(no (no .nil (no y6 (nd y7 .nil y10))) y19),nx:=1598,ok:=true,v:=(iN 29),out:=.nil,nx':=2971,wr:=[]}
theorem k2:∀[F:Facts],HY (Env.ofS Tryz.prog [] []) o1.base 19605 o2=true:=by
 intro F
 kernel_rfl
theorem w2(G:Nat→D→D):o2.Valid Tryz.prog G:=Orc.first (okE _ []) (w0 G) (w1 G) k2
end Go.Proofs.YtojjaeaohjlfnaaGreat.memoryBounds

