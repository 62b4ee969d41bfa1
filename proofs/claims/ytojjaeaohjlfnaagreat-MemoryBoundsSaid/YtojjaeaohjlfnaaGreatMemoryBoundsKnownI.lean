/- What is proved: that certain calls which the law MemoryBounds makes come to the results that are written here (part 9 of 13). Conditions: the memory that such a call reaches is as written here; the kernel runs the evaluator over each. -/
import Derived.Test.YtojjaeaohjlfnaaGreatMemoryBoundsKnownA
import Derived.Test.YtojjaeaohjlfnaaGreatMemoryBoundsKnownH
set_option linter.unusedVariables false
set_option linter.unusedSectionVars false
set_option linter.unusedSimpArgs false
namespace Go.Proofs.YtojjaeaohjlfnaaGreat.memoryBounds
open Go.AE
noncomputable def o13:Orc:=
 {f:=9,args:=[(.agg [(.str 1 100),(.slice 8038 0 2 2),(.str 1 115)])],part:=(no (no (no .nil y44) .nil) (no (no (no y52 .nil) y50) y51)),nx:=8040,ok:=true,v:=y22,out:=.nil,nx':=10998,wr:=[]}
theorem k13:∀[F:Facts],Dn (Env.ofS Tryz.prog [o12] []) 1000000 o13=true:=by
 intro F
 kernel_rfl
theorem w13(G:Nat→D→D):o13.Valid Tryz.prog G:=Ac.val (okE _ []) (.cons (w12 G) (w0 G)) k13
end Go.Proofs.YtojjaeaohjlfnaaGreat.memoryBounds

