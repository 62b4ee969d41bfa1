/- What is proved: that certain calls which the law MemoryBounds makes come to the results that are written here (part 4 of 13). Conditions: the memory that such a call reaches is as written here; the kernel runs the evaluator over each. -/
import Derived.Test.YtojjaeaohjlfnaaGreatMemoryBoundsKnownA
set_option linter.unusedVariables false
set_option linter.unusedSectionVars false
set_option linter.unusedSimpArgs false
namespace Go.Proofs.YtojjaeaohjlfnaaGreat.memoryBounds
open Go.AE
noncomputable def o4:Orc:=
 {f:=18,args:=[(.agg [(.str 1 100),(.slice 2979 0 2 2),(.str 1 115)])],part:=(no (no (no (no (no (no .nil (no (no .nil (no .nil y24)) .nil)) .nil) .nil) (no (no (no .nil (no (no .nil (no .nil (no .nil (no (lf (.cells 4 (nd (.str 1 97) (nd (.slice 2973 0 1 15) (lf (.slice 2977 0 4 15)) .nil) (lf (.str 1 115))))) .nil)))) .nil)) .nil) .nil)) (no (no (no (no .nil (no (no .nil (no .nil (no .nil (no (lf (ceL 60 [y16,y17,[(.str 1 108),(iN 7),(iN 0),(.bool false),(.bool false),(iN 0),(iN 0),(iN 0),(.slice 2975 0 1 2),(.str 1 97),(.str 0 0),(.str 0 0),.slice0,(iN 0),(iN 0)],[(.str 1 98),(iN 4),(iN 0),(.bool false),(.bool false),(iN 0),(iN 0),(iN 0),(.slice 2976 0 1 2),(.str 0 0),(.str 0 0),(.str 0 0),.slice0,(iN 0),(iN 0)]])) .nil)))) .nil)) .nil) .nil) (no .nil (no .nil (no (no (no .nil (no .nil y27)) .nil) .nil))))) (no (no (no (no (no .nil (no (no .nil (no .nil y21)) .nil)) .nil) .nil) .nil) .nil)),nx:=2980,ok:=true,v:=(.tuple [(.slice 3930 0 1 1),(iN 0)]),out:=(no .nil (no .nil (no (no .nil (no .nil (no (no .nil (no (no .nil (no .nil (no .nil (lf (.cells 1 (lf (.str 1 115))))))) .nil)) .nil))) .nil))),nx':=3937,wr:=[]}
theorem k4:∀[F:Facts],Dn (Env.ofS Tryz.prog [] []) 1000000 o4=true:=by
 intro F
 kernel_rfl
theorem w4(G:Nat→D→D):o4.Valid Tryz.prog G:=Ac.val (okE _ []) (w0 G) k4
end Go.Proofs.YtojjaeaohjlfnaaGreat.memoryBounds

