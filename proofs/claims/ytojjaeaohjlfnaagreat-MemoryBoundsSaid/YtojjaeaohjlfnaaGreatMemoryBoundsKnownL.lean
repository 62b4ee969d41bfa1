/- What is proved: that certain calls which the law MemoryBounds makes come to the results that are written here (part 12 of 13). Conditions: the memory that such a call reaches is as written here; the kernel runs the evaluator over each. -/
import Derived.Test.YtojjaeaohjlfnaaGreatMemoryBoundsKnownA
import Derived.Test.YtojjaeaohjlfnaaGreatMemoryBoundsKnownK
set_option linter.unusedVariables false
set_option linter.unusedSectionVars false
set_option linter.unusedSimpArgs false
namespace Go.Proofs.YtojjaeaohjlfnaaGreat.memoryBounds
open Go.AE
noncomputable def o16:Orc:=
 {f:=9,args:=[(.agg [(.str 1 100),(.slice 11006 0 2 2),(.str 1 115)])],part:=(no (no (no .nil y56) .nil) (no (no (no .nil y64) y62) y63)),nx:=11008,ok:=true,v:=y22,out:=.nil,nx':=13966,wr:=[]}
theorem k16:∀[F:Facts],Dn (Env.ofS Tryz.prog [o15] []) 1000000 o16=true:=by
 intro F
 kernel_rfl
theorem w16(G:Nat→D→D):o16.Valid Tryz.prog G:=Ac.val (okE _ []) (.cons (w15 G) (w0 G)) k16
end Go.Proofs.YtojjaeaohjlfnaaGreat.memoryBounds

