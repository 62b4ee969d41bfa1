/- What is proved: that certain calls which the law MemoryBounds makes come to the results that are written here (part 11 of 13). Conditions: the memory that such a call reaches is as written here; the kernel runs the evaluator over each. -/
import Derived.Test.YtojjaeaohjlfnaaGreatMemoryBoundsKnownA
import Derived.Test.YtojjaeaohjlfnaaGreatMemoryBoundsKnownJ
set_option linter.unusedVariables false
set_option linter.unusedSectionVars false
set_option linter.unusedSimpArgs false
namespace Go.Proofs.YtojjaeaohjlfnaaGreat.memoryBounds
open Go.AE
noncomputable def o15:Orc:=
 {f:=29,args:=[(.slice 11004 0 4 15),(.func (.func 30) [] [(pN 12592),(pN 12591),(pN 11008)])],part:=(no y57 (no (no (no y59 y64) y62) y63)),nx:=12593,ok:=true,v:=(iN 29),out:=.nil,nx':=13966,wr:=[]}
theorem k15:∀[F:Facts],HY (Env.ofS Tryz.prog [] []) o14.base 19605 o15=true:=by
 intro F
 kernel_rfl
theorem w15(G:Nat→D→D):o15.Valid Tryz.prog G:=Orc.first (okE _ []) (w0 G) (w14 G) k15
end Go.Proofs.YtojjaeaohjlfnaaGreat.memoryBounds

