/- What is proved: that certain calls which the law MemoryBounds makes come to the results that are written here (part 13 of 13). Conditions: the memory that such a call reaches is as written here; the kernel runs the evaluator over each. -/
import Derived.Test.YtojjaeaohjlfnaaGreatMemoryBoundsKnownA
import Derived.Test.YtojjaeaohjlfnaaGreatMemoryBoundsKnownC
import Derived.Test.YtojjaeaohjlfnaaGreatMemoryBoundsKnownD
import Derived.Test.YtojjaeaohjlfnaaGreatMemoryBoundsKnownE
import Derived.Test.YtojjaeaohjlfnaaGreatMemoryBoundsKnownF
import Derived.Test.YtojjaeaohjlfnaaGreatMemoryBoundsKnownG
import Derived.Test.YtojjaeaohjlfnaaGreatMemoryBoundsKnownI
import Derived.Test.YtojjaeaohjlfnaaGreatMemoryBoundsKnownL
set_option linter.unusedVariables false
set_option linter.unusedSectionVars false
set_option linter.unusedSimpArgs false
namespace Go.Proofs.YtojjaeaohjlfnaaGreat.memoryBounds
open Go.AE
noncomputable def o17:Orc:=
 {f:=8,args:=[],part:=.nil,nx:=5,ok:=true,v:=(.bool true),out:=.nil,nx':=13967,wr:=[]}
theorem k17:∀[F:Facts],Dn (Env.ofS Tryz.prog [o16,o13,o10,o9,o8,o7,o6,o5,o4,o3] []) 1000000 o17=true:=by
 intro F
 kernel_rfl
theorem w17(G:Nat→D→D):o17.Valid Tryz.prog G:=Ac.val (okE _ []) (.cons (w16 G) (.cons (w13 G) (.cons (w10 G) (.cons (w9 G) (.cons (w8 G) (.cons (w7 G) (.cons (w6 G) (.cons (w5 G) (.cons (w4 G) (.cons (w3 G) (w0 G))))))))))) k17
noncomputable def o18:Orc:=o17.move 4091
theorem w18(G:Nat→D→D):o18.Valid Tryz.prog G:=Orc.Valid.move (w17 G) (by kernel_rfl) 4091
end Go.Proofs.YtojjaeaohjlfnaaGreat.memoryBounds

