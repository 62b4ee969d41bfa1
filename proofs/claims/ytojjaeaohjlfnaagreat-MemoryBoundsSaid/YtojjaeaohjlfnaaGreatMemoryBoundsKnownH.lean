/- What is proved: that certain calls which the law MemoryBounds makes come to the results that are written here (part 8 of 13). Conditions: the memory that such a call reaches is as written here; the kernel runs the evaluator over each. -/
import Derived.Test.YtojjaeaohjlfnaaGreatMemoryBoundsKnownA
import Derived.Test.YtojjaeaohjlfnaaGreatMemoryBoundsKnownG
set_option linter.unusedVariables false
set_option linter.unusedSectionVars false
set_option linter.unusedSimpArgs false
namespace Go.Proofs.YtojjaeaohjlfnaaGreat.memoryBounds
open Go.AE
noncomputable def o12:Orc:=
 {f:=29,args:=[(.slice 8036 0 4 15),(.func (.func 30) [] [(pN 9624),(pN 9623),(pN 8040)])],part:=(no y45 (no (no (no y52 y49) y50) y51)),nx:=9625,ok:=true,v:=(iN 29),out:=.nil,nx':=10998,wr:=[]}
theorem k12:∀[F:Facts],HY (Env.ofS Tryz.prog [] []) o11.base 19605 o12=true:=by
 intro F
 kernel_rfl
theorem w12(G:Nat→D→D):o12.Valid Tryz.prog G:=Orc.first (okE _ []) (w0 G) (w11 G) k12
end Go.Proofs.YtojjaeaohjlfnaaGreat.memoryBounds

