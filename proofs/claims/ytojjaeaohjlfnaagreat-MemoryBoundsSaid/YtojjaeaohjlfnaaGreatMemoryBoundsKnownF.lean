/- What is proved: that certain calls which the law MemoryBounds makes come to the results that are written here (part 6 of 13). Conditions: the memory that such a call reaches is as written here; the kernel runs the evaluator over each. -/
import Derived.Test.YtojjaeaohjlfnaaGreatMemoryBoundsKnownA
set_option linter.unusedVariables false
set_option linter.unusedSectionVars false
set_option linter.unusedSimpArgs false
namespace Go.Proofs.YtojjaeaohjlfnaaGreat.memoryBounds
open Go.AE
noncomputable def o7:Orc:=
 {f:=14,args:=[(.agg [(.str 1 100),(.slice 5388 0 2 2),(.str 1 115)]),(.str 1 115),(.str 1 98)],part:=(no (no .nil (no (no .nil (no (no (no y35 .nil) .nil) .nil)) .nil)) (no (no (no .nil (no (no (no y36 .nil) .nil) .nil)) (no .nil (no (no (no (no (no .nil (no (no .nil (no (lf (.cells 4 (nd (.str 1 97) (nd (.slice 5382 0 1 15) (lf (.slice 5386 0 4 15)) .nil) (lf (.str 1 115))))) .nil)) .nil)) .nil) .nil) .nil) .nil))) (no (no .nil (no (no (no (no (no .nil (no (no .nil (no (lf (ceL 60 [y16,y17,[(.str 1 108),(iN 7),(iN 0),(.bool false),(.bool false),(iN 0),(iN 0),(iN 0),(.slice 5384 0 1 2),(.str 1 97),(.str 0 0),(.str 0 0),.slice0,(iN 0),(iN 0)],[(.str 1 98),(iN 4),(iN 0),(.bool false),(.bool false),(iN 0),(iN 0),(iN 0),(.slice 5385 0 1 2),(.str 0 0),(.str 0 0),(.str 0 0),.slice0,(iN 0),(iN 0)]])) .nil)) .nil)) .nil) .nil) .nil) .nil)) (no (no (no (no y37 .nil) .nil) .nil) .nil)))),nx:=5389,ok:=true,v:=(.tuple [(iN 29),(iN 0)]),out:=.nil,nx':=6180,wr:=[]}
theorem k7:∀[F:Facts],Dn (Env.ofS Tryz.prog [] []) 1000000 o7=true:=by
 intro F
 kernel_rfl
theorem w7(G:Nat→D→D):o7.Valid Tryz.prog G:=Ac.val (okE _ []) (w0 G) k7
noncomputable def o8:Orc:=
 {f:=14,args:=[(.agg [(.str 1 100),(.slice 6187 0 2 2),(.str 1 115)]),(.str 1 97),(.str 1 120)],part:=(no (no (no (no .nil (no (no .nil (no (no (no (no y38 .nil) .nil) .nil) .nil)) .nil)) (no .nil (no (no .nil (no (no (no (no (no (no .nil (lf (.cells 4 (nd (.str 1 97) (nd (.slice 6181 0 1 15) (lf (.slice 6185 0 4 15)) .nil) (lf (.str 1 115)))))) .nil) .nil) .nil) .nil) .nil)) .nil))) (no (no .nil (no (no .nil (no (no (no (no (no (no .nil (lf (ceL 60 [y16,y17,[(.str 1 108),(iN 7),(iN 0),(.bool false),(.bool false),(iN 0),(iN 0),(iN 0),(.slice 6183 0 1 2),(.str 1 97),(.str 0 0),(.str 0 0),.slice0,(iN 0),(iN 0)],[(.str 1 98),(iN 4),(iN 0),(.bool false),(.bool false),(iN 0),(iN 0),(iN 0),(.slice 6184 0 1 2),(.str 0 0),(.str 0 0),(.str 0 0),.slice0,(iN 0),(iN 0)]]))) .nil) .nil) .nil) .nil) .nil)) .nil)) (no (no (no .nil (no (no (no (no y39 .nil) .nil) .nil) .nil)) .nil) .nil))) (no (no (no .nil (no (no .nil (no (no (no (no y40 .nil) .nil) .nil) .nil)) .nil)) .nil) .nil)),nx:=6188,ok:=true,v:=(.tuple [(iN 5),(iN 0)]),out:=.nil,nx':=6899,wr:=[]}
theorem k8:∀[F:Facts],Dn (Env.ofS Tryz.prog [] []) 1000000 o8=true:=by
 intro F
 kernel_rfl
theorem w8(G:Nat→D→D):o8.Valid Tryz.prog G:=Ac.val (okE _ []) (w0 G) k8
end Go.Proofs.YtojjaeaohjlfnaaGreat.memoryBounds

