/- What is proved: that certain calls which the law MemoryBounds makes come to the results that are written here (part 3 of 13). Conditions: the memory that such a call reaches is as written here; the kernel runs the evaluator over each. -/
import Derived.Test.YtojjaeaohjlfnaaGreatMemoryBoundsKnownA
import Derived.Test.YtojjaeaohjlfnaaGreatMemoryBoundsKnownB
set_option linter.unusedVariables false
set_option linter.unusedSectionVars false
set_option linter.unusedSimpArgs false
namespace Go.Proofs.YtojjaeaohjlfnaaGreat.memoryBounds
open Go.AE
noncomputable def o3:Orc:=
 {f:=9,args:=[(.agg [(.str 1 100),(.slice 12 0 2 2),(.str 1 115)])],part:=(no y21 (no (no y11 (lf y12)) y18)),nx:=13,ok:=true,v:=y22,out:=.nil,nx':=2971,wr:=[]}
theorem k3:∀[F:Facts],Dn (Env.ofS Tryz.prog [o2] []) 1000000 o3=true:=by
 intro F
 kernel_rfl
theorem w3(G:Nat→D→D):o3.Valid Tryz.prog G:=Ac.val (okE _ []) (.cons (w2 G) (w0 G)) k3
end Go.Proofs.YtojjaeaohjlfnaaGreat.memoryBounds

